import PyProof.Rows.All
import Wide.All
import OpenK.AllK
import Wide.FinOn
import HandS.ForMost
import HandS.Defaults
import HandS.Exc
import HandS.HeadHook1
import HandS.HeadHook2
import HandS.HeadHook3
import HandS.HeadHook4
import PySem.Challenge.RW_lentvoices_k82_whole_known
import KE.KStateDown
import Lean
import HandS.Head0
import HandS.Head1
import HandS.Head2
import HandS.HeadEnd
import HandS.Codes
import HandS.FStr
import HandS.IsInst
import HandS.DictComp
import HandS.TupAny
import HandS.Flow
import HandS.CallLocal
import HandS.NoneIn
import HandS.Conv
import HandS.More
import HandS.Strs
import HandS.SetKeys
import HandS.SortInts
import HandS.Zip
import HandS.ListItems
import HandS.Walk
import KE.KeyNested
import HandS.RaiseMore
import HandS.Lambda
import HandS.HeadWalk
import HandS.OwnEq
import HandS.Iter
import HandS.Dict
import KE.KDictKeyed
import KE.KDictCopyH
import KE.KDictPairs
import PyProof.Rows.SeqRoads
import KE.SortData
import KE.GoesEnum
import PyProof.DictUpdate
import HandS.Set
import KE.KIntText
import HandS.Style
set_option Elab.async false
set_option linter.all false
set_option maxRecDepth 100000
set_option maxHeartbeats 0
namespace Lv
open PySem PySem.Spec PyProof.Rows L2
def top (i : Nat) : Stmt := PySem.Challenge.pw_lentvoices_k82_whole_known.main.body.getD i (.Pass ⟨0, 0, 0, 0⟩)
abbrev s_is_whole : Stmt := top 12
abbrev s_is_listed : Stmt := top 13
abbrev s_as_tuples : Stmt := top 14
abbrev s_ascending : Stmt := top 15
abbrev s_is_made_of : Stmt := top 21
abbrev s_is_name : Stmt := top 22
abbrev s_is_word : Stmt := top 23
abbrev s_kinds_of : Stmt := top 32
abbrev s_are_lends : Stmt := top 33
abbrev s_are_needs : Stmt := top 34
abbrev s_are_all : Stmt := top 35
abbrev s_are_unlike : Stmt := top 36
abbrev s_Ladder_init : Stmt := inClass (top 37) 0
abbrev s_Ladder_eq : Stmt := inClass (top 37) 1
abbrev s_Founder_init : Stmt := inClass (top 38) 0
abbrev s_Founder_eq : Stmt := inClass (top 38) 1
abbrev s_Rule_init : Stmt := inClass (top 39) 0
abbrev s_Rule_eq : Stmt := inClass (top 39) 1
abbrev s_are_readers : Stmt := top 40
abbrev s_Thread_init : Stmt := inClass (top 41) 0
abbrev s_Thread_eq : Stmt := inClass (top 41) 1
abbrev s_are_founders : Stmt := top 42
abbrev s_are_rules : Stmt := top 43
abbrev s_are_threads : Stmt := top 44
abbrev s_Forum_init : Stmt := inClass (top 45) 0
abbrev s_Forum_eq : Stmt := inClass (top 45) 1
abbrev s_is_quoted : Stmt := top 48
abbrev s_is_piece : Stmt := top 49
abbrev s_is_body : Stmt := top 50
abbrev s_is_subject_text : Stmt := top 54
abbrev s_is_units : Stmt := top 55
abbrev s_is_truth : Stmt := top 56
abbrev s_is_speech : Stmt := top 57
abbrev s_is_post_saying : Stmt := top 58
abbrev s_is_saying : Stmt := top 59
abbrev s_subject_of : Stmt := top 60
abbrev s_Letter_init : Stmt := inClass (top 61) 0
abbrev s_Letter_eq : Stmt := inClass (top 61) 1
abbrev s_piece_text : Stmt := top 63
abbrev s_part_text : Stmt := top 64
abbrev s_letter_text : Stmt := top 65
abbrev s_texts_of : Stmt := top 67
abbrev s_splits_of : Stmt := top 68
abbrev s_counted : Stmt := top 69
abbrev s_sayings_that_count : Stmt := top 70
abbrev s_named : Stmt := top 71
abbrev s_State_init : Stmt := inClass (top 72) 0
abbrev s_State_eq : Stmt := inClass (top 72) 1
abbrev s_State_len : Stmt := inClass (top 72) 2
abbrev s_State_contains : Stmt := inClass (top 72) 3
abbrev s_State_add : Stmt := inClass (top 72) 4
abbrev s_State_or : Stmt := inClass (top 72) 5
abbrev s_State_is_part_of : Stmt := inClass (top 72) 6
abbrev s_State_said : Stmt := inClass (top 72) 7
abbrev s_State_last : Stmt := inClass (top 72) 9
abbrev s_State_counts : Stmt := inClass (top 72) 10
abbrev s_State_told : Stmt := inClass (top 72) 11
abbrev s_are_places : Stmt := top 75
abbrev s_Places_init : Stmt := inClass (top 76) 0
abbrev s_Places_need : Stmt := inClass (top 76) 1
abbrev s_Places_need_message : Stmt := inClass (top 76) 2
abbrev s_Places_told : Stmt := inClass (top 76) 3
abbrev s_Places_write : Stmt := inClass (top 76) 5
abbrev s_Places_send : Stmt := inClass (top 76) 6
abbrev s_Places_deliver : Stmt := inClass (top 76) 7
abbrev s_Places_lose : Stmt := inClass (top 76) 8
abbrev s_Places_state : Stmt := inClass (top 76) 10
abbrev s_Places_known : Stmt := inClass (top 76) 11
abbrev s_Places_known_by_all : Stmt := inClass (top 76) 12
abbrev s_Places_together : Stmt := inClass (top 76) 13
abbrev s__law_pen : Stmt := top 78
abbrev s__law_draw : Stmt := top 79
abbrev s__law_pick : Stmt := top 80
abbrev s__law_shuffled : Stmt := top 81
abbrev s__law_name : Stmt := top 82
abbrev s__law_names : Stmt := top 83
abbrev s__law_some_ladder : Stmt := top 84
abbrev s__law_some_forum : Stmt := top 85
abbrev s__law_some_saying : Stmt := top 86
abbrev s__law_frame : Stmt := top 87
abbrev s__law_some_letters : Stmt := top 88
abbrev s__law_made_forum : Stmt := top 89
abbrev s__law_letter_rows : Stmt := top 90
abbrev s__law_world : Stmt := top 91
abbrev s__law_more_letters : Stmt := top 92
abbrev s__law_is_state : Stmt := top 93
abbrev s__law_net : Stmt := top 94
abbrev s__law_net_deed : Stmt := top 95
abbrev s__law_net_do : Stmt := top 96
abbrev s__law_net_story : Stmt := top 97
abbrev s__law_net_sure_right : Stmt := top 98
abbrev s_law : Stmt := top 99
def mkD (a : Str × Option Str) (n q : Str) (st : Stmt) (dfl : List He.Dv) : He.DefD := ⟨a, n, q, defArgs st, defBody st, defScope st, dfl, []⟩
def d_is_whole : He.DefD := mkD ("is_whole", none) "is_whole" "is_whole" s_is_whole [.non]
def d_is_listed : He.DefD := mkD ("is_listed", none) "is_listed" "is_listed" s_is_listed []
def d_as_tuples : He.DefD := mkD ("as_tuples", none) "as_tuples" "as_tuples" s_as_tuples []
def d_ascending : He.DefD := mkD ("ascending", none) "ascending" "ascending" s_ascending []
def d_is_made_of : He.DefD := mkD ("is_made_of", none) "is_made_of" "is_made_of" s_is_made_of []
def d_is_name : He.DefD := mkD ("is_name", none) "is_name" "is_name" s_is_name []
def d_is_word : He.DefD := mkD ("is_word", none) "is_word" "is_word" s_is_word []
def d_kinds_of : He.DefD := mkD ("kinds_of", none) "kinds_of" "kinds_of" s_kinds_of []
def d_are_lends : He.DefD := mkD ("are_lends", none) "are_lends" "are_lends" s_are_lends []
def d_are_needs : He.DefD := mkD ("are_needs", none) "are_needs" "are_needs" s_are_needs []
def d_are_all : He.DefD := mkD ("are_all", none) "are_all" "are_all" s_are_all []
def d_are_unlike : He.DefD := mkD ("are_unlike", none) "are_unlike" "are_unlike" s_are_unlike []
def d_Ladder_init : He.DefD := mkD ("Ladder", some "__init__") "__init__" "Ladder.__init__" s_Ladder_init []
def d_Ladder_eq : He.DefD := mkD ("Ladder", some "__eq__") "__eq__" "Ladder.__eq__" s_Ladder_eq []
def d_Founder_init : He.DefD := mkD ("Founder", some "__init__") "__init__" "Founder.__init__" s_Founder_init []
def d_Founder_eq : He.DefD := mkD ("Founder", some "__eq__") "__eq__" "Founder.__eq__" s_Founder_eq []
def d_Rule_init : He.DefD := mkD ("Rule", some "__init__") "__init__" "Rule.__init__" s_Rule_init []
def d_Rule_eq : He.DefD := mkD ("Rule", some "__eq__") "__eq__" "Rule.__eq__" s_Rule_eq []
def d_are_readers : He.DefD := mkD ("are_readers", none) "are_readers" "are_readers" s_are_readers []
def d_Thread_init : He.DefD := mkD ("Thread", some "__init__") "__init__" "Thread.__init__" s_Thread_init []
def d_Thread_eq : He.DefD := mkD ("Thread", some "__eq__") "__eq__" "Thread.__eq__" s_Thread_eq []
def d_are_founders : He.DefD := mkD ("are_founders", none) "are_founders" "are_founders" s_are_founders []
def d_are_rules : He.DefD := mkD ("are_rules", none) "are_rules" "are_rules" s_are_rules []
def d_are_threads : He.DefD := mkD ("are_threads", none) "are_threads" "are_threads" s_are_threads []
def d_Forum_init : He.DefD := mkD ("Forum", some "__init__") "__init__" "Forum.__init__" s_Forum_init []
def d_Forum_eq : He.DefD := mkD ("Forum", some "__eq__") "__eq__" "Forum.__eq__" s_Forum_eq []
def d_is_quoted : He.DefD := mkD ("is_quoted", none) "is_quoted" "is_quoted" s_is_quoted []
def d_is_piece : He.DefD := mkD ("is_piece", none) "is_piece" "is_piece" s_is_piece []
def d_is_body : He.DefD := mkD ("is_body", none) "is_body" "is_body" s_is_body []
def d_is_subject_text : He.DefD := mkD ("is_subject_text", none) "is_subject_text" "is_subject_text" s_is_subject_text []
def d_is_units : He.DefD := mkD ("is_units", none) "is_units" "is_units" s_is_units []
def d_is_truth : He.DefD := mkD ("is_truth", none) "is_truth" "is_truth" s_is_truth []
def d_is_speech : He.DefD := mkD ("is_speech", none) "is_speech" "is_speech" s_is_speech []
def d_is_post_saying : He.DefD := mkD ("is_post_saying", none) "is_post_saying" "is_post_saying" s_is_post_saying []
def d_is_saying : He.DefD := mkD ("is_saying", none) "is_saying" "is_saying" s_is_saying []
def d_subject_of : He.DefD := mkD ("subject_of", none) "subject_of" "subject_of" s_subject_of []
def d_Letter_init : He.DefD := mkD ("Letter", some "__init__") "__init__" "Letter.__init__" s_Letter_init []
def d_Letter_eq : He.DefD := mkD ("Letter", some "__eq__") "__eq__" "Letter.__eq__" s_Letter_eq []
def d_piece_text : He.DefD := mkD ("piece_text", none) "piece_text" "piece_text" s_piece_text []
def d_part_text : He.DefD := mkD ("part_text", none) "part_text" "part_text" s_part_text []
def d_letter_text : He.DefD := mkD ("letter_text", none) "letter_text" "letter_text" s_letter_text []
def d_texts_of : He.DefD := mkD ("texts_of", none) "texts_of" "texts_of" s_texts_of []
def d_splits_of : He.DefD := mkD ("splits_of", none) "splits_of" "splits_of" s_splits_of []
def d_counted : He.DefD := mkD ("counted", none) "counted" "counted" s_counted []
def d_sayings_that_count : He.DefD := mkD ("sayings_that_count", none) "sayings_that_count" "sayings_that_count" s_sayings_that_count []
def d_named : He.DefD := mkD ("named", none) "named" "named" s_named []
def d_State_init : He.DefD := mkD ("State", some "__init__") "__init__" "State.__init__" s_State_init []
def d_State_eq : He.DefD := mkD ("State", some "__eq__") "__eq__" "State.__eq__" s_State_eq []
def d_State_len : He.DefD := mkD ("State", some "__len__") "__len__" "State.__len__" s_State_len []
def d_State_contains : He.DefD := mkD ("State", some "__contains__") "__contains__" "State.__contains__" s_State_contains []
def d_State_add : He.DefD := mkD ("State", some "__add__") "__add__" "State.__add__" s_State_add []
def d_State_or : He.DefD := mkD ("State", some "__or__") "__or__" "State.__or__" s_State_or []
def d_State_is_part_of : He.DefD := mkD ("State", some "is_part_of") "is_part_of" "State.is_part_of" s_State_is_part_of []
def d_State_said : He.DefD := mkD ("State", some "said") "said" "State.said" s_State_said []
def d_State_last : He.DefD := mkD ("State", some "last") "last" "State.last" s_State_last []
def d_State_counts : He.DefD := mkD ("State", some "counts") "counts" "State.counts" s_State_counts []
def d_State_told : He.DefD := mkD ("State", some "told") "told" "State.told" s_State_told []
def d_are_places : He.DefD := mkD ("are_places", none) "are_places" "are_places" s_are_places []
def d_Places_init : He.DefD := mkD ("Places", some "__init__") "__init__" "Places.__init__" s_Places_init []
def d_Places_need : He.DefD := mkD ("Places", some "_need") "_need" "Places._need" s_Places_need []
def d_Places_need_message : He.DefD := mkD ("Places", some "_need_message") "_need_message" "Places._need_message" s_Places_need_message []
def d_Places_told : He.DefD := mkD ("Places", some "_told") "_told" "Places._told" s_Places_told []
def d_Places_write : He.DefD := mkD ("Places", some "write") "write" "Places.write" s_Places_write []
def d_Places_send : He.DefD := mkD ("Places", some "send") "send" "Places.send" s_Places_send []
def d_Places_deliver : He.DefD := mkD ("Places", some "deliver") "deliver" "Places.deliver" s_Places_deliver []
def d_Places_lose : He.DefD := mkD ("Places", some "lose") "lose" "Places.lose" s_Places_lose []
def d_Places_state : He.DefD := mkD ("Places", some "state") "state" "Places.state" s_Places_state []
def d_Places_known : He.DefD := mkD ("Places", some "known") "known" "Places.known" s_Places_known []
def d_Places_known_by_all : He.DefD := mkD ("Places", some "known_by_all") "known_by_all" "Places.known_by_all" s_Places_known_by_all []
def d_Places_together : He.DefD := mkD ("Places", some "together") "together" "Places.together" s_Places_together []
def d__law_pen : He.DefD := mkD ("_law_pen", none) "_law_pen" "_law_pen" s__law_pen []
def d__law_draw : He.DefD := mkD ("_law_draw", none) "_law_draw" "_law_draw" s__law_draw []
def d__law_pick : He.DefD := mkD ("_law_pick", none) "_law_pick" "_law_pick" s__law_pick []
def d__law_shuffled : He.DefD := mkD ("_law_shuffled", none) "_law_shuffled" "_law_shuffled" s__law_shuffled []
def d__law_name : He.DefD := mkD ("_law_name", none) "_law_name" "_law_name" s__law_name []
def d__law_names : He.DefD := mkD ("_law_names", none) "_law_names" "_law_names" s__law_names []
def d__law_some_ladder : He.DefD := mkD ("_law_some_ladder", none) "_law_some_ladder" "_law_some_ladder" s__law_some_ladder []
def d__law_some_forum : He.DefD := mkD ("_law_some_forum", none) "_law_some_forum" "_law_some_forum" s__law_some_forum []
def d__law_some_saying : He.DefD := mkD ("_law_some_saying", none) "_law_some_saying" "_law_some_saying" s__law_some_saying []
def d__law_frame : He.DefD := mkD ("_law_frame", none) "_law_frame" "_law_frame" s__law_frame []
def d__law_some_letters : He.DefD := mkD ("_law_some_letters", none) "_law_some_letters" "_law_some_letters" s__law_some_letters []
def d__law_made_forum : He.DefD := mkD ("_law_made_forum", none) "_law_made_forum" "_law_made_forum" s__law_made_forum []
def d__law_letter_rows : He.DefD := mkD ("_law_letter_rows", none) "_law_letter_rows" "_law_letter_rows" s__law_letter_rows []
def d__law_world : He.DefD := mkD ("_law_world", none) "_law_world" "_law_world" s__law_world []
def d__law_more_letters : He.DefD := mkD ("_law_more_letters", none) "_law_more_letters" "_law_more_letters" s__law_more_letters []
def d__law_is_state : He.DefD := mkD ("_law_is_state", none) "_law_is_state" "_law_is_state" s__law_is_state []
def d__law_net : He.DefD := mkD ("_law_net", none) "_law_net" "_law_net" s__law_net []
def d__law_net_deed : He.DefD := mkD ("_law_net_deed", none) "_law_net_deed" "_law_net_deed" s__law_net_deed []
def d__law_net_do : He.DefD := mkD ("_law_net_do", none) "_law_net_do" "_law_net_do" s__law_net_do []
def d__law_net_story : He.DefD := mkD ("_law_net_story", none) "_law_net_story" "_law_net_story" s__law_net_story []
def d__law_net_sure_right : He.DefD := mkD ("_law_net_sure_right", none) "_law_net_sure_right" "_law_net_sure_right" s__law_net_sure_right []
def d_law : He.DefD := mkD ("law", none) "law" "law" s_law []
def fn0 : List He.DefD := [d_is_whole, d_is_listed, d_as_tuples, d_ascending, d_is_made_of, d_is_name, d_is_word, d_kinds_of, d_are_lends, d_are_needs, d_are_all, d_are_unlike, d_Ladder_init, d_Ladder_eq, d_Founder_init, d_Founder_eq, d_Rule_init, d_Rule_eq, d_are_readers, d_Thread_init, d_Thread_eq, d_are_founders, d_are_rules, d_are_threads, d_Forum_init, d_Forum_eq, d_is_quoted, d_is_piece, d_is_body, d_is_subject_text]
def fn1 : List He.DefD := [d_is_units, d_is_truth, d_is_speech, d_is_post_saying, d_is_saying, d_subject_of, d_Letter_init, d_Letter_eq, d_piece_text, d_part_text, d_letter_text, d_texts_of, d_splits_of, d_counted, d_sayings_that_count, d_named, d_State_init, d_State_eq, d_State_len, d_State_contains, d_State_add, d_State_or, d_State_is_part_of, d_State_said, d_State_last, d_State_counts, d_State_told, d_are_places, d_Places_init, d_Places_need]
def fn2 : List He.DefD := [d_Places_need_message, d_Places_told, d_Places_write, d_Places_send, d_Places_deliver, d_Places_lose, d_Places_state, d_Places_known, d_Places_known_by_all, d_Places_together, d__law_pen, d__law_draw, d__law_pick, d__law_shuffled, d__law_name, d__law_names, d__law_some_ladder, d__law_some_forum, d__law_some_saying, d__law_frame, d__law_some_letters, d__law_made_forum, d__law_letter_rows, d__law_world, d__law_more_letters, d__law_is_state, d__law_net, d__law_net_deed, d__law_net_do, d__law_net_story]
def fn3 : List He.DefD := [d__law_net_sure_right, d_law]
def fn : List He.DefD := fn0 ++ fn1 ++ fn2 ++ fn3
def fa0 : List He.Fa := [.glo "is_whole", .glo "is_listed", .glo "as_tuples", .glo "ascending", .str "LETTERS" "abcdefghijklmnopqrstuvwxyz", .str "FIGURES" "0123456789", .int "LONGEST_WORD" 12, .glo "QUOTING", .glo "is_made_of", .glo "is_name", .glo "is_word", .int "MOST_RANK" 4, .int "MOST_UNITS_ladders" 24, .int "MOST_NEEDED" 20, .int "MOST_RULES" 12, .int "MOST_THREADS" 12, .int "MOST_READERS" 12, .glo "KINDS", .glo "kinds_of", .glo "are_lends", .glo "are_needs", .glo "are_all", .glo "are_unlike", .glo "Ladder", .cls "Ladder", .mkr "Ladder", .meth "Ladder" "__init__", .meth "Ladder" "__eq__", .noat "Ladder" "lends", .noat "Ladder" "needs"]
def fa1 : List He.Fa := [.noat "Ladder" "top", .glo "Founder", .cls "Founder", .mkr "Founder", .meth "Founder" "__init__", .meth "Founder" "__eq__", .noat "Founder" "name", .noat "Founder" "gift", .noat "Founder" "rank", .glo "Rule", .cls "Rule", .mkr "Rule", .meth "Rule" "__init__", .meth "Rule" "__eq__", .noat "Rule" "word", .noat "Rule" "kind", .noat "Rule" "needs", .noat "Rule" "rank", .glo "are_readers", .glo "Thread", .cls "Thread", .mkr "Thread", .meth "Thread" "__init__", .meth "Thread" "__eq__", .noat "Thread" "name", .noat "Thread" "readers", .glo "are_founders", .glo "are_rules", .glo "are_threads", .glo "Forum"]
def fa2 : List He.Fa := [.cls "Forum", .mkr "Forum", .meth "Forum" "__init__", .meth "Forum" "__eq__", .noat "Forum" "ladder", .noat "Forum" "founders", .noat "Forum" "rules", .noat "Forum" "threads", .int "MOST_PIECES" 20, .glo "is_quoted", .glo "is_piece", .glo "is_body", .int "MOST_UNITS_letters" 24, .glo "SIDES", .glo "is_subject_text", .glo "is_units", .glo "is_truth", .glo "is_speech", .glo "is_post_saying", .glo "is_saying", .glo "subject_of", .glo "Letter", .cls "Letter", .mkr "Letter", .meth "Letter" "__init__", .meth "Letter" "__eq__", .noat "Letter" "account", .noat "Letter" "number", .noat "Letter" "saying", .glo "piece_text"]
def fa3 : List He.Fa := [.glo "part_text", .glo "letter_text", .glo "texts_of", .glo "splits_of", .glo "counted", .glo "sayings_that_count", .glo "named", .glo "State", .cls "State", .mkr "State", .meth "State" "__init__", .meth "State" "__eq__", .meth "State" "__len__", .meth "State" "__contains__", .meth "State" "__add__", .meth "State" "__or__", .meth "State" "is_part_of", .meth "State" "said", .meth "State" "last", .meth "State" "counts", .meth "State" "told", .noat "State" "forum", .noat "State" "_texts", .noat "State" "letters", .noat "State" "_split", .noat "State" "_counts", .noat "State" "_accounts", .noat "State" "_vouches", .noat "State" "_backs", .int "MOST_PLACES" 8]
def fa4 : List He.Fa := [.glo "are_places", .glo "Places", .cls "Places", .mkr "Places", .meth "Places" "__init__", .meth "Places" "_need", .meth "Places" "_need_message", .meth "Places" "_told", .meth "Places" "write", .meth "Places" "send", .meth "Places" "deliver", .meth "Places" "lose", .meth "Places" "state", .meth "Places" "known", .meth "Places" "known_by_all", .meth "Places" "together", .noat "Places" "_forum", .noat "Places" "_sure", .noat "Places" "_way", .noat "Places" "_sent", .glo "_law_pen", .glo "_law_draw", .glo "_law_pick", .glo "_law_shuffled", .glo "_law_name", .glo "_law_names", .glo "_law_some_ladder", .glo "_law_some_forum", .glo "_law_some_saying", .glo "_law_frame"]
def fa5 : List He.Fa := [.glo "_law_some_letters", .glo "_law_made_forum", .glo "_law_letter_rows", .glo "_law_world", .glo "_law_more_letters", .glo "_law_is_state", .glo "_law_net", .glo "_law_net_deed", .glo "_law_net_do", .glo "_law_net_story", .glo "_law_net_sure_right", .glo "law", .free "isinstance", .free "int", .free "bool", .free "str", .free "tuple", .free "list", .free "set", .free "sorted", .free "len", .free "all", .free "zip", .free "sum", .free "max", .free "min", .free "enumerate", .free "range", .free "dict"]
def fa : List He.Fa := fa0 ++ fa1 ++ fa2 ++ fa3 ++ fa4 ++ fa5
def tf : List He.Defn := [("are_founders", none), ("are_rules", none), ("are_threads", none)]
def insB (K : PySem.W.Frag) (x : Str) : Bool := decide (PySem.W.findIn K (.ref (He.ga K x)) "__class__" = some (some (.builtin "object.__class__"))) && (decide (PySem.W.mroIn K (He.ga K x) (.type "object") = some true) && decide (PySem.W.kitOne K (.ref (He.ga K x)) (.ref (He.ga K x)) = some true))
def clsB (K : PySem.W.Frag) : Bool := decide (PySem.W.specialIn K (.builtin "object.__class__") "__get__" = some (some (.builtin "getset_descriptor.__get__"))) && decide (PySem.W.takesIn K (.builtin "object.__class__") = some true)
def exB (K : PySem.W.Frag) : Bool := clsB K && (["Ladder", "Founder", "Rule", "Thread", "Forum", "Letter", "State", "Places"] : List Str).all (insB K) && decide ((tf.map fun p => (He.cT K p).2).Nodup)
def exA (K : PySem.W.Frag) : Bool := He.tupB K "QUOTING" [.str "see", .str "copy"] && He.tupB K "KINDS" [.str "post", .str "account", .str "name"] && He.tupB K "SIDES" [.str "for", .str "against", .str "none"]
def ex (K : PySem.W.Frag) : Bool := exA K && exB K
def nm0 : List PySem.Str := ["_wall", "ForumError", "BadName", "BadNumber", "BadSaying", "BadLetter", "BadRow", "NoName", "Unlike", "NotThere", "is_whole", "is_listed", "as_tuples", "ascending", "LETTERS", "FIGURES", "LONGEST_WORD", "QUOTING", "is_made_of", "is_name", "is_word", "MOST_RANK", "MOST_UNITS_ladders", "MOST_NEEDED", "MOST_RULES", "MOST_THREADS", "MOST_READERS", "KINDS", "kinds_of", "are_lends"]
def nm1 : List PySem.Str := ["are_needs", "are_all", "are_unlike", "Ladder", "Founder", "Rule", "are_readers", "Thread", "are_founders", "are_rules", "are_threads", "Forum", "MOST_PIECES", "is_quoted", "is_piece", "is_body", "MOST_UNITS_letters", "SIDES", "is_subject_text", "is_units", "is_truth", "is_speech", "is_post_saying", "is_saying", "subject_of", "Letter", "piece_text", "part_text", "letter_text", "texts_of"]
def nm2 : List PySem.Str := ["splits_of", "counted", "sayings_that_count", "named", "State", "MOST_PLACES", "are_places", "Places", "_law_pen", "_law_draw", "_law_pick", "_law_shuffled", "_law_name", "_law_names", "_law_some_ladder", "_law_some_forum", "_law_some_saying", "_law_frame", "_law_some_letters", "_law_made_forum", "_law_letter_rows", "_law_world", "_law_more_letters", "_law_is_state", "_law_net", "_law_net_deed", "_law_net_do", "_law_net_story", "_law_net_sure_right"]
def nms : List PySem.Str := nm0 ++ nm1 ++ nm2
end Lv
set_option maxHeartbeats 0
namespace Lv
open PySem PySem.Spec PyProof.Rows L2
abbrev R : PySem.W.OpenRow := PySem.W.OpenLaw.row PySem.Challenge.rw_lentvoices_k82_whole_known
def asL : List Addr := List.range 1300
def obsL (g : Addr → Option Obj) : He.AlX := (He.obsT fa fn [] (He.frT g asL), ex (He.frT g asL) && He.tabsB g tf (He.frT g asL))
theorem saysL_of {w : World} {h : Heap} (e : obsL h.get? = He.valX fn [] w) : He.SaysX fa fn [] tf ex w h (He.frT h.get? asL) := by
  have e1 : He.obsT fa fn [] (He.frT h.get? asL) = He.valT fn [] w := congrArg (fun z : He.AlX => z.1) e
  have e2 : (ex (He.frT h.get? asL) && He.tabsB h.get? tf (He.frT h.get? asL)) = true := congrArg (fun z : He.AlX => z.2) e
  obtain ⟨h1, h2⟩ := He.ba e2
  have key : ∀ p ∈ tf, PySem.W.codeHdIn (He.frT h.get? asL) (He.cT (He.frT h.get? asL) p).1 (He.cT (He.frT h.get? asL) p).2 = true ∧ ∃ o, h.get? (He.cT (He.frT h.get? asL) p).2 = some o ∧ He.emptyTab o = true := fun p hp => by
    obtain ⟨h3, h4⟩ := He.ba (List.all_eq_true.mp h2 p hp)
    refine ⟨h3, ?_⟩
    cases q : h.get? (He.cT (He.frT h.get? asL) p).2 with
    | none =>
      rw [q] at h4
      cases h4
    | some o =>
      rw [q] at h4
      exact ⟨o, rfl, h4⟩
  exact ⟨e1, h1, fun p hp => (key p hp).1, fun p hp => by
    obtain ⟨_, o, q, z⟩ := key p hp
    exact He.frT_none q z, fun p hp => by
    obtain ⟨_, o, q, z⟩ := key p hp
    rw [q, He.emptyTab_eq z]⟩
def hk : PySem.W.Hook where
  α := He.AlX
  obs := fun s => obsL s.heap.get?
  val := fun w => He.valX fn [] w
  says := fun w h => ∃ K : PySem.W.Frag, K.In h ∧ He.SaysX fa fn [] tf ex w h K
  of := fun _ _ e => ⟨_, He.frT_in, saysL_of e⟩
  keeps := fun _ _ _ ⟨K, hK, c⟩ k => ⟨K, PySem.W.Frag.In.keeps hK k, ⟨c.t, c.more, c.hd, c.out, fun p hp => k _ _ (c.empty p hp)⟩⟩
def ob (s : PySem.W.SharedT) : He.AlX := obsL (HandSHeadRun.getT s)
theorem ob_eq (s : PySem.W.SharedT) : ob s = hk.obs s.abs := by
  have e : HandSHeadRun.getT s = s.abs.heap.get? := funext (HandSHeadRun.getT_eq s)
  show obsL (HandSHeadRun.getT s) = obsL s.abs.heap.get?
  rw [e]
end Lv
namespace Lv
open PySem PySem.W PySem.Calls PyProof.Rows HandSHeadRun
abbrev qv : Program := PySem.W.view R.prog [99]
noncomputable abbrev endS (w : World) (os : OsState) : Option SharedT := endF (stepQ (denQ tabQ) R.prog w) 9000 R.prog w os
theorem run1 (w : World) (os : OsState) : (endS w os).map (fun s => looksF R.prog (boot_heap w.params) s.abs) = some true := by
  kernel_rfl
theorem run2 (w : World) (os : OsState) : (endS w os).map (fun s => seenQ qv nms (importedModules R.prog.main.body) (fun s => xlAt qv [] s && recOk R.toRowW.records s) s.abs) = some (openGood qv nms) := by
  kernel_rfl
theorem run3 (w : World) (os : OsState) : (endS w os).map ob = some (hk.val w) := by
  kernel_rfl
theorem map3 {α β γ δ : Type} {o : Option α} {f : α → β} {g : α → γ} {h : α → δ} {x : β} {y : γ} {z : δ} (a : o.map f = some x) (b : o.map g = some y) (c : o.map h = some z) : o.map (fun s => (f s, g s, h s)) = some (x, y, z) := by
  cases o with
  | none => cases a
  | some v =>
    obtain rfl : f v = x := Option.some.inj a
    obtain rfl : g v = y := Option.some.inj b
    obtain rfl : h v = z := Option.some.inj c
    rfl
theorem run (w : World) : RunEq R qv hk ob 9000 nms w := fun os => map3 (run1 w os) (run2 w os) (run3 w os)
end Lv
set_option maxHeartbeats 4000000
namespace Lv
open PySem PySem.Spec PyProof.Rows L2
structure Txt (K : PySem.W.Frag) (mg : Str → Option Value) : Prop where
  d : He.SaysD fa fn K
  h : ∃ h : Heap, K.In h ∧ h.Ns mainGlobals mg
  ex : ex K = true
section
variable {K : PySem.W.Frag} {mg : Str → Option Value}
theorem Txt.exA (T : Txt K mg) : exA K = true := (He.ba T.ex).1
theorem Txt.ins (T : Txt K mg) {x : Str} (hc : Cls K (He.ga K x)) (h : x ∈ (["Ladder", "Founder", "Rule", "Thread", "Forum", "Letter", "State", "Places"] : List Str)) : C8.InsC K (He.ga K x) := by
  obtain ⟨h1, h2⟩ := He.ba (He.ba (He.ba T.ex).2).1
  obtain ⟨h3, h4⟩ := He.ba h1
  obtain ⟨h5, h6⟩ := He.ba (List.all_eq_true.mp h2 x h)
  obtain ⟨h7, h8⟩ := He.ba h6
  exact ⟨hc, of_decide_eq_true h5, of_decide_eq_true h3, of_decide_eq_true h4, of_decide_eq_true h7, of_decide_eq_true h8⟩
theorem Txt.tabs (T : Txt K mg) : (tf.map fun p => (He.cT K p).2).Nodup := of_decide_eq_true (He.ba (He.ba T.ex).2).2
theorem Txt.glo (T : Txt K mg) (i : Nat) {x : Str} (e : fa[i]? = some (.glo x) := by rfl) : mg x = some (.ref (He.ga K x)) := by
  obtain ⟨h, X, G⟩ := T.h
  exact He.glo_ok X G (T.d.fact i e)
theorem Txt.free (T : Txt K mg) (i : Nat) {x : Str} (e : fa[i]? = some (.free x) := by rfl) : mg x = none := by
  obtain ⟨h, X, G⟩ := T.h
  exact He.free_ok X G (T.d.fact i e)
theorem Txt.int (T : Txt K mg) (i : Nat) {x : Str} {j : Int} (e : fa[i]? = some (.int x j) := by rfl) : ∃ t, mg x = some (.int j t) := by
  obtain ⟨h, X, G⟩ := T.h
  exact He.int_ok X G (T.d.fact i e)
theorem Txt.str (T : Txt K mg) (i : Nat) {x z : Str} (e : fa[i]? = some (.str x z) := by rfl) : ∃ t, mg x = some (.str z t) := by
  obtain ⟨h, X, G⟩ := T.h
  exact He.str_ok X G (T.d.fact i e)
theorem Txt.cls (T : Txt K mg) (i : Nat) {x : Str} (e : fa[i]? = some (.cls x) := by rfl) : Cls K (He.ga K x) := He.cls_ok (T.d.fact i e)
theorem Txt.noat (T : Txt K mg) (i : Nat) {x f : Str} (e : fa[i]? = some (.noat x f) := by rfl) : NoAttr K (He.ga K x) f := He.noat_ok (T.d.fact i e)
theorem Txt.meth (T : Txt K mg) (i : Nat) {x m : Str} (e : fa[i]? = some (.meth x m) := by rfl) : Meth K (He.ga K x) m (He.ma K (He.ga K x) m) := He.meth_ok (T.d.fact i e)
theorem Txt.mkr (T : Txt K mg) (i : Nat) {x : Str} (e : fa[i]? = some (.mkr x) := by rfl) : Mk K (He.ga K x) (He.ma K (He.ga K x) "__init__") := He.mkr_ok (T.d.fact i e)
theorem Txt.g_is_whole (T : Txt K mg) : mg "is_whole" = some (.ref (He.ga K "is_whole")) := T.glo 0
theorem Txt.g_is_listed (T : Txt K mg) : mg "is_listed" = some (.ref (He.ga K "is_listed")) := T.glo 1
theorem Txt.g_as_tuples (T : Txt K mg) : mg "as_tuples" = some (.ref (He.ga K "as_tuples")) := T.glo 2
theorem Txt.g_ascending (T : Txt K mg) : mg "ascending" = some (.ref (He.ga K "ascending")) := T.glo 3
theorem Txt.s_LETTERS (T : Txt K mg) : ∃ t, mg "LETTERS" = some (.str "abcdefghijklmnopqrstuvwxyz" t) := T.str 4
theorem Txt.s_FIGURES (T : Txt K mg) : ∃ t, mg "FIGURES" = some (.str "0123456789" t) := T.str 5
theorem Txt.i_LONGEST_WORD (T : Txt K mg) : ∃ t, mg "LONGEST_WORD" = some (.int 12 t) := T.int 6
theorem Txt.g_QUOTING (T : Txt K mg) : mg "QUOTING" = some (.ref (He.ga K "QUOTING")) := T.glo 7
theorem Txt.g_is_made_of (T : Txt K mg) : mg "is_made_of" = some (.ref (He.ga K "is_made_of")) := T.glo 8
theorem Txt.g_is_name (T : Txt K mg) : mg "is_name" = some (.ref (He.ga K "is_name")) := T.glo 9
theorem Txt.g_is_word (T : Txt K mg) : mg "is_word" = some (.ref (He.ga K "is_word")) := T.glo 10
theorem Txt.i_MOST_RANK (T : Txt K mg) : ∃ t, mg "MOST_RANK" = some (.int 4 t) := T.int 11
theorem Txt.i_MOST_UNITS_ladders (T : Txt K mg) : ∃ t, mg "MOST_UNITS_ladders" = some (.int 24 t) := T.int 12
theorem Txt.i_MOST_NEEDED (T : Txt K mg) : ∃ t, mg "MOST_NEEDED" = some (.int 20 t) := T.int 13
theorem Txt.i_MOST_RULES (T : Txt K mg) : ∃ t, mg "MOST_RULES" = some (.int 12 t) := T.int 14
theorem Txt.i_MOST_THREADS (T : Txt K mg) : ∃ t, mg "MOST_THREADS" = some (.int 12 t) := T.int 15
theorem Txt.i_MOST_READERS (T : Txt K mg) : ∃ t, mg "MOST_READERS" = some (.int 12 t) := T.int 16
theorem Txt.g_KINDS (T : Txt K mg) : mg "KINDS" = some (.ref (He.ga K "KINDS")) := T.glo 17
theorem Txt.g_kinds_of (T : Txt K mg) : mg "kinds_of" = some (.ref (He.ga K "kinds_of")) := T.glo 18
theorem Txt.g_are_lends (T : Txt K mg) : mg "are_lends" = some (.ref (He.ga K "are_lends")) := T.glo 19
theorem Txt.g_are_needs (T : Txt K mg) : mg "are_needs" = some (.ref (He.ga K "are_needs")) := T.glo 20
theorem Txt.g_are_all (T : Txt K mg) : mg "are_all" = some (.ref (He.ga K "are_all")) := T.glo 21
theorem Txt.g_are_unlike (T : Txt K mg) : mg "are_unlike" = some (.ref (He.ga K "are_unlike")) := T.glo 22
theorem Txt.g_Ladder (T : Txt K mg) : mg "Ladder" = some (.ref (He.ga K "Ladder")) := T.glo 23
theorem Txt.cls_Ladder (T : Txt K mg) : Cls K (He.ga K "Ladder") := T.cls 24
theorem Txt.mk_Ladder (T : Txt K mg) : Mk K (He.ga K "Ladder") (He.ma K (He.ga K "Ladder") "__init__") := T.mkr 25
theorem Txt.me_Ladder_init (T : Txt K mg) : Meth K (He.ga K "Ladder") "__init__" (He.ma K (He.ga K "Ladder") "__init__") := T.meth 26
theorem Txt.me_Ladder_eq (T : Txt K mg) : Meth K (He.ga K "Ladder") "__eq__" (He.ma K (He.ga K "Ladder") "__eq__") := T.meth 27
theorem Txt.na_Ladder_lends (T : Txt K mg) : NoAttr K (He.ga K "Ladder") "lends" := T.noat 28
theorem Txt.na_Ladder_needs (T : Txt K mg) : NoAttr K (He.ga K "Ladder") "needs" := T.noat 29
theorem Txt.na_Ladder_top (T : Txt K mg) : NoAttr K (He.ga K "Ladder") "top" := T.noat 30
theorem Txt.g_Founder (T : Txt K mg) : mg "Founder" = some (.ref (He.ga K "Founder")) := T.glo 31
theorem Txt.cls_Founder (T : Txt K mg) : Cls K (He.ga K "Founder") := T.cls 32
theorem Txt.mk_Founder (T : Txt K mg) : Mk K (He.ga K "Founder") (He.ma K (He.ga K "Founder") "__init__") := T.mkr 33
theorem Txt.me_Founder_init (T : Txt K mg) : Meth K (He.ga K "Founder") "__init__" (He.ma K (He.ga K "Founder") "__init__") := T.meth 34
theorem Txt.me_Founder_eq (T : Txt K mg) : Meth K (He.ga K "Founder") "__eq__" (He.ma K (He.ga K "Founder") "__eq__") := T.meth 35
theorem Txt.na_Founder_name (T : Txt K mg) : NoAttr K (He.ga K "Founder") "name" := T.noat 36
theorem Txt.na_Founder_gift (T : Txt K mg) : NoAttr K (He.ga K "Founder") "gift" := T.noat 37
theorem Txt.na_Founder_rank (T : Txt K mg) : NoAttr K (He.ga K "Founder") "rank" := T.noat 38
theorem Txt.g_Rule (T : Txt K mg) : mg "Rule" = some (.ref (He.ga K "Rule")) := T.glo 39
theorem Txt.cls_Rule (T : Txt K mg) : Cls K (He.ga K "Rule") := T.cls 40
theorem Txt.mk_Rule (T : Txt K mg) : Mk K (He.ga K "Rule") (He.ma K (He.ga K "Rule") "__init__") := T.mkr 41
theorem Txt.me_Rule_init (T : Txt K mg) : Meth K (He.ga K "Rule") "__init__" (He.ma K (He.ga K "Rule") "__init__") := T.meth 42
theorem Txt.me_Rule_eq (T : Txt K mg) : Meth K (He.ga K "Rule") "__eq__" (He.ma K (He.ga K "Rule") "__eq__") := T.meth 43
theorem Txt.na_Rule_word (T : Txt K mg) : NoAttr K (He.ga K "Rule") "word" := T.noat 44
theorem Txt.na_Rule_kind (T : Txt K mg) : NoAttr K (He.ga K "Rule") "kind" := T.noat 45
theorem Txt.na_Rule_needs (T : Txt K mg) : NoAttr K (He.ga K "Rule") "needs" := T.noat 46
theorem Txt.na_Rule_rank (T : Txt K mg) : NoAttr K (He.ga K "Rule") "rank" := T.noat 47
theorem Txt.g_are_readers (T : Txt K mg) : mg "are_readers" = some (.ref (He.ga K "are_readers")) := T.glo 48
theorem Txt.g_Thread (T : Txt K mg) : mg "Thread" = some (.ref (He.ga K "Thread")) := T.glo 49
theorem Txt.cls_Thread (T : Txt K mg) : Cls K (He.ga K "Thread") := T.cls 50
theorem Txt.mk_Thread (T : Txt K mg) : Mk K (He.ga K "Thread") (He.ma K (He.ga K "Thread") "__init__") := T.mkr 51
theorem Txt.me_Thread_init (T : Txt K mg) : Meth K (He.ga K "Thread") "__init__" (He.ma K (He.ga K "Thread") "__init__") := T.meth 52
theorem Txt.me_Thread_eq (T : Txt K mg) : Meth K (He.ga K "Thread") "__eq__" (He.ma K (He.ga K "Thread") "__eq__") := T.meth 53
theorem Txt.na_Thread_name (T : Txt K mg) : NoAttr K (He.ga K "Thread") "name" := T.noat 54
theorem Txt.na_Thread_readers (T : Txt K mg) : NoAttr K (He.ga K "Thread") "readers" := T.noat 55
theorem Txt.g_are_founders (T : Txt K mg) : mg "are_founders" = some (.ref (He.ga K "are_founders")) := T.glo 56
theorem Txt.g_are_rules (T : Txt K mg) : mg "are_rules" = some (.ref (He.ga K "are_rules")) := T.glo 57
theorem Txt.g_are_threads (T : Txt K mg) : mg "are_threads" = some (.ref (He.ga K "are_threads")) := T.glo 58
theorem Txt.g_Forum (T : Txt K mg) : mg "Forum" = some (.ref (He.ga K "Forum")) := T.glo 59
theorem Txt.cls_Forum (T : Txt K mg) : Cls K (He.ga K "Forum") := T.cls 60
theorem Txt.mk_Forum (T : Txt K mg) : Mk K (He.ga K "Forum") (He.ma K (He.ga K "Forum") "__init__") := T.mkr 61
theorem Txt.me_Forum_init (T : Txt K mg) : Meth K (He.ga K "Forum") "__init__" (He.ma K (He.ga K "Forum") "__init__") := T.meth 62
theorem Txt.me_Forum_eq (T : Txt K mg) : Meth K (He.ga K "Forum") "__eq__" (He.ma K (He.ga K "Forum") "__eq__") := T.meth 63
theorem Txt.na_Forum_ladder (T : Txt K mg) : NoAttr K (He.ga K "Forum") "ladder" := T.noat 64
theorem Txt.na_Forum_founders (T : Txt K mg) : NoAttr K (He.ga K "Forum") "founders" := T.noat 65
theorem Txt.na_Forum_rules (T : Txt K mg) : NoAttr K (He.ga K "Forum") "rules" := T.noat 66
theorem Txt.na_Forum_threads (T : Txt K mg) : NoAttr K (He.ga K "Forum") "threads" := T.noat 67
theorem Txt.i_MOST_PIECES (T : Txt K mg) : ∃ t, mg "MOST_PIECES" = some (.int 20 t) := T.int 68
theorem Txt.g_is_quoted (T : Txt K mg) : mg "is_quoted" = some (.ref (He.ga K "is_quoted")) := T.glo 69
theorem Txt.g_is_piece (T : Txt K mg) : mg "is_piece" = some (.ref (He.ga K "is_piece")) := T.glo 70
theorem Txt.g_is_body (T : Txt K mg) : mg "is_body" = some (.ref (He.ga K "is_body")) := T.glo 71
theorem Txt.i_MOST_UNITS_letters (T : Txt K mg) : ∃ t, mg "MOST_UNITS_letters" = some (.int 24 t) := T.int 72
theorem Txt.g_SIDES (T : Txt K mg) : mg "SIDES" = some (.ref (He.ga K "SIDES")) := T.glo 73
theorem Txt.g_is_subject_text (T : Txt K mg) : mg "is_subject_text" = some (.ref (He.ga K "is_subject_text")) := T.glo 74
theorem Txt.g_is_units (T : Txt K mg) : mg "is_units" = some (.ref (He.ga K "is_units")) := T.glo 75
theorem Txt.g_is_truth (T : Txt K mg) : mg "is_truth" = some (.ref (He.ga K "is_truth")) := T.glo 76
theorem Txt.g_is_speech (T : Txt K mg) : mg "is_speech" = some (.ref (He.ga K "is_speech")) := T.glo 77
theorem Txt.g_is_post_saying (T : Txt K mg) : mg "is_post_saying" = some (.ref (He.ga K "is_post_saying")) := T.glo 78
theorem Txt.g_is_saying (T : Txt K mg) : mg "is_saying" = some (.ref (He.ga K "is_saying")) := T.glo 79
theorem Txt.g_subject_of (T : Txt K mg) : mg "subject_of" = some (.ref (He.ga K "subject_of")) := T.glo 80
theorem Txt.g_Letter (T : Txt K mg) : mg "Letter" = some (.ref (He.ga K "Letter")) := T.glo 81
theorem Txt.cls_Letter (T : Txt K mg) : Cls K (He.ga K "Letter") := T.cls 82
theorem Txt.mk_Letter (T : Txt K mg) : Mk K (He.ga K "Letter") (He.ma K (He.ga K "Letter") "__init__") := T.mkr 83
theorem Txt.me_Letter_init (T : Txt K mg) : Meth K (He.ga K "Letter") "__init__" (He.ma K (He.ga K "Letter") "__init__") := T.meth 84
theorem Txt.me_Letter_eq (T : Txt K mg) : Meth K (He.ga K "Letter") "__eq__" (He.ma K (He.ga K "Letter") "__eq__") := T.meth 85
theorem Txt.na_Letter_account (T : Txt K mg) : NoAttr K (He.ga K "Letter") "account" := T.noat 86
theorem Txt.na_Letter_number (T : Txt K mg) : NoAttr K (He.ga K "Letter") "number" := T.noat 87
theorem Txt.na_Letter_saying (T : Txt K mg) : NoAttr K (He.ga K "Letter") "saying" := T.noat 88
theorem Txt.g_piece_text (T : Txt K mg) : mg "piece_text" = some (.ref (He.ga K "piece_text")) := T.glo 89
theorem Txt.g_part_text (T : Txt K mg) : mg "part_text" = some (.ref (He.ga K "part_text")) := T.glo 90
theorem Txt.g_letter_text (T : Txt K mg) : mg "letter_text" = some (.ref (He.ga K "letter_text")) := T.glo 91
theorem Txt.g_texts_of (T : Txt K mg) : mg "texts_of" = some (.ref (He.ga K "texts_of")) := T.glo 92
theorem Txt.g_splits_of (T : Txt K mg) : mg "splits_of" = some (.ref (He.ga K "splits_of")) := T.glo 93
theorem Txt.g_counted (T : Txt K mg) : mg "counted" = some (.ref (He.ga K "counted")) := T.glo 94
theorem Txt.g_sayings_that_count (T : Txt K mg) : mg "sayings_that_count" = some (.ref (He.ga K "sayings_that_count")) := T.glo 95
theorem Txt.g_named (T : Txt K mg) : mg "named" = some (.ref (He.ga K "named")) := T.glo 96
theorem Txt.g_State (T : Txt K mg) : mg "State" = some (.ref (He.ga K "State")) := T.glo 97
theorem Txt.cls_State (T : Txt K mg) : Cls K (He.ga K "State") := T.cls 98
theorem Txt.mk_State (T : Txt K mg) : Mk K (He.ga K "State") (He.ma K (He.ga K "State") "__init__") := T.mkr 99
theorem Txt.me_State_init (T : Txt K mg) : Meth K (He.ga K "State") "__init__" (He.ma K (He.ga K "State") "__init__") := T.meth 100
theorem Txt.me_State_eq (T : Txt K mg) : Meth K (He.ga K "State") "__eq__" (He.ma K (He.ga K "State") "__eq__") := T.meth 101
theorem Txt.me_State_len (T : Txt K mg) : Meth K (He.ga K "State") "__len__" (He.ma K (He.ga K "State") "__len__") := T.meth 102
theorem Txt.me_State_contains (T : Txt K mg) : Meth K (He.ga K "State") "__contains__" (He.ma K (He.ga K "State") "__contains__") := T.meth 103
theorem Txt.me_State_add (T : Txt K mg) : Meth K (He.ga K "State") "__add__" (He.ma K (He.ga K "State") "__add__") := T.meth 104
theorem Txt.me_State_or (T : Txt K mg) : Meth K (He.ga K "State") "__or__" (He.ma K (He.ga K "State") "__or__") := T.meth 105
theorem Txt.me_State_is_part_of (T : Txt K mg) : Meth K (He.ga K "State") "is_part_of" (He.ma K (He.ga K "State") "is_part_of") := T.meth 106
theorem Txt.me_State_said (T : Txt K mg) : Meth K (He.ga K "State") "said" (He.ma K (He.ga K "State") "said") := T.meth 107
theorem Txt.me_State_last (T : Txt K mg) : Meth K (He.ga K "State") "last" (He.ma K (He.ga K "State") "last") := T.meth 108
theorem Txt.me_State_counts (T : Txt K mg) : Meth K (He.ga K "State") "counts" (He.ma K (He.ga K "State") "counts") := T.meth 109
theorem Txt.me_State_told (T : Txt K mg) : Meth K (He.ga K "State") "told" (He.ma K (He.ga K "State") "told") := T.meth 110
theorem Txt.na_State_forum (T : Txt K mg) : NoAttr K (He.ga K "State") "forum" := T.noat 111
theorem Txt.na_State_texts (T : Txt K mg) : NoAttr K (He.ga K "State") "_texts" := T.noat 112
theorem Txt.na_State_letters (T : Txt K mg) : NoAttr K (He.ga K "State") "letters" := T.noat 113
theorem Txt.na_State_split (T : Txt K mg) : NoAttr K (He.ga K "State") "_split" := T.noat 114
theorem Txt.na_State_counts (T : Txt K mg) : NoAttr K (He.ga K "State") "_counts" := T.noat 115
theorem Txt.na_State_accounts (T : Txt K mg) : NoAttr K (He.ga K "State") "_accounts" := T.noat 116
theorem Txt.na_State_vouches (T : Txt K mg) : NoAttr K (He.ga K "State") "_vouches" := T.noat 117
theorem Txt.na_State_backs (T : Txt K mg) : NoAttr K (He.ga K "State") "_backs" := T.noat 118
theorem Txt.i_MOST_PLACES (T : Txt K mg) : ∃ t, mg "MOST_PLACES" = some (.int 8 t) := T.int 119
theorem Txt.g_are_places (T : Txt K mg) : mg "are_places" = some (.ref (He.ga K "are_places")) := T.glo 120
theorem Txt.g_Places (T : Txt K mg) : mg "Places" = some (.ref (He.ga K "Places")) := T.glo 121
theorem Txt.cls_Places (T : Txt K mg) : Cls K (He.ga K "Places") := T.cls 122
theorem Txt.mk_Places (T : Txt K mg) : Mk K (He.ga K "Places") (He.ma K (He.ga K "Places") "__init__") := T.mkr 123
theorem Txt.me_Places_init (T : Txt K mg) : Meth K (He.ga K "Places") "__init__" (He.ma K (He.ga K "Places") "__init__") := T.meth 124
theorem Txt.me_Places_need (T : Txt K mg) : Meth K (He.ga K "Places") "_need" (He.ma K (He.ga K "Places") "_need") := T.meth 125
theorem Txt.me_Places_need_message (T : Txt K mg) : Meth K (He.ga K "Places") "_need_message" (He.ma K (He.ga K "Places") "_need_message") := T.meth 126
theorem Txt.me_Places_told (T : Txt K mg) : Meth K (He.ga K "Places") "_told" (He.ma K (He.ga K "Places") "_told") := T.meth 127
theorem Txt.me_Places_write (T : Txt K mg) : Meth K (He.ga K "Places") "write" (He.ma K (He.ga K "Places") "write") := T.meth 128
theorem Txt.me_Places_send (T : Txt K mg) : Meth K (He.ga K "Places") "send" (He.ma K (He.ga K "Places") "send") := T.meth 129
theorem Txt.me_Places_deliver (T : Txt K mg) : Meth K (He.ga K "Places") "deliver" (He.ma K (He.ga K "Places") "deliver") := T.meth 130
theorem Txt.me_Places_lose (T : Txt K mg) : Meth K (He.ga K "Places") "lose" (He.ma K (He.ga K "Places") "lose") := T.meth 131
theorem Txt.me_Places_state (T : Txt K mg) : Meth K (He.ga K "Places") "state" (He.ma K (He.ga K "Places") "state") := T.meth 132
theorem Txt.me_Places_known (T : Txt K mg) : Meth K (He.ga K "Places") "known" (He.ma K (He.ga K "Places") "known") := T.meth 133
theorem Txt.me_Places_known_by_all (T : Txt K mg) : Meth K (He.ga K "Places") "known_by_all" (He.ma K (He.ga K "Places") "known_by_all") := T.meth 134
theorem Txt.me_Places_together (T : Txt K mg) : Meth K (He.ga K "Places") "together" (He.ma K (He.ga K "Places") "together") := T.meth 135
theorem Txt.na_Places_forum (T : Txt K mg) : NoAttr K (He.ga K "Places") "_forum" := T.noat 136
theorem Txt.na_Places_sure (T : Txt K mg) : NoAttr K (He.ga K "Places") "_sure" := T.noat 137
theorem Txt.na_Places_way (T : Txt K mg) : NoAttr K (He.ga K "Places") "_way" := T.noat 138
theorem Txt.na_Places_sent (T : Txt K mg) : NoAttr K (He.ga K "Places") "_sent" := T.noat 139
theorem Txt.g__law_pen (T : Txt K mg) : mg "_law_pen" = some (.ref (He.ga K "_law_pen")) := T.glo 140
theorem Txt.g__law_draw (T : Txt K mg) : mg "_law_draw" = some (.ref (He.ga K "_law_draw")) := T.glo 141
theorem Txt.g__law_pick (T : Txt K mg) : mg "_law_pick" = some (.ref (He.ga K "_law_pick")) := T.glo 142
theorem Txt.g__law_shuffled (T : Txt K mg) : mg "_law_shuffled" = some (.ref (He.ga K "_law_shuffled")) := T.glo 143
theorem Txt.g__law_name (T : Txt K mg) : mg "_law_name" = some (.ref (He.ga K "_law_name")) := T.glo 144
theorem Txt.g__law_names (T : Txt K mg) : mg "_law_names" = some (.ref (He.ga K "_law_names")) := T.glo 145
theorem Txt.g__law_some_ladder (T : Txt K mg) : mg "_law_some_ladder" = some (.ref (He.ga K "_law_some_ladder")) := T.glo 146
theorem Txt.g__law_some_forum (T : Txt K mg) : mg "_law_some_forum" = some (.ref (He.ga K "_law_some_forum")) := T.glo 147
theorem Txt.g__law_some_saying (T : Txt K mg) : mg "_law_some_saying" = some (.ref (He.ga K "_law_some_saying")) := T.glo 148
theorem Txt.g__law_frame (T : Txt K mg) : mg "_law_frame" = some (.ref (He.ga K "_law_frame")) := T.glo 149
theorem Txt.g__law_some_letters (T : Txt K mg) : mg "_law_some_letters" = some (.ref (He.ga K "_law_some_letters")) := T.glo 150
theorem Txt.g__law_made_forum (T : Txt K mg) : mg "_law_made_forum" = some (.ref (He.ga K "_law_made_forum")) := T.glo 151
theorem Txt.g__law_letter_rows (T : Txt K mg) : mg "_law_letter_rows" = some (.ref (He.ga K "_law_letter_rows")) := T.glo 152
theorem Txt.g__law_world (T : Txt K mg) : mg "_law_world" = some (.ref (He.ga K "_law_world")) := T.glo 153
theorem Txt.g__law_more_letters (T : Txt K mg) : mg "_law_more_letters" = some (.ref (He.ga K "_law_more_letters")) := T.glo 154
theorem Txt.g__law_is_state (T : Txt K mg) : mg "_law_is_state" = some (.ref (He.ga K "_law_is_state")) := T.glo 155
theorem Txt.g__law_net (T : Txt K mg) : mg "_law_net" = some (.ref (He.ga K "_law_net")) := T.glo 156
theorem Txt.g__law_net_deed (T : Txt K mg) : mg "_law_net_deed" = some (.ref (He.ga K "_law_net_deed")) := T.glo 157
theorem Txt.g__law_net_do (T : Txt K mg) : mg "_law_net_do" = some (.ref (He.ga K "_law_net_do")) := T.glo 158
theorem Txt.g__law_net_story (T : Txt K mg) : mg "_law_net_story" = some (.ref (He.ga K "_law_net_story")) := T.glo 159
theorem Txt.g__law_net_sure_right (T : Txt K mg) : mg "_law_net_sure_right" = some (.ref (He.ga K "_law_net_sure_right")) := T.glo 160
theorem Txt.g_law (T : Txt K mg) : mg "law" = some (.ref (He.ga K "law")) := T.glo 161
theorem Txt.b_isinstance (T : Txt K mg) : mg "isinstance" = none := T.free 162
theorem Txt.b_int (T : Txt K mg) : mg "int" = none := T.free 163
theorem Txt.b_bool (T : Txt K mg) : mg "bool" = none := T.free 164
theorem Txt.b_str (T : Txt K mg) : mg "str" = none := T.free 165
theorem Txt.b_tuple (T : Txt K mg) : mg "tuple" = none := T.free 166
theorem Txt.b_list (T : Txt K mg) : mg "list" = none := T.free 167
theorem Txt.b_set (T : Txt K mg) : mg "set" = none := T.free 168
theorem Txt.b_sorted (T : Txt K mg) : mg "sorted" = none := T.free 169
theorem Txt.b_len (T : Txt K mg) : mg "len" = none := T.free 170
theorem Txt.b_all (T : Txt K mg) : mg "all" = none := T.free 171
theorem Txt.b_zip (T : Txt K mg) : mg "zip" = none := T.free 172
theorem Txt.b_sum (T : Txt K mg) : mg "sum" = none := T.free 173
theorem Txt.b_max (T : Txt K mg) : mg "max" = none := T.free 174
theorem Txt.b_min (T : Txt K mg) : mg "min" = none := T.free 175
theorem Txt.b_enumerate (T : Txt K mg) : mg "enumerate" = none := T.free 176
theorem Txt.b_range (T : Txt K mg) : mg "range" = none := T.free 177
theorem Txt.b_dict (T : Txt K mg) : mg "dict" = none := T.free 178
end
theorem boot_isinstance : bootBuiltins "isinstance" = some (.builtin "isinstance") := by decide +kernel
theorem boot_int : bootBuiltins "int" = some (.type "int") := by decide +kernel
theorem boot_bool : bootBuiltins "bool" = some (.type "bool") := by decide +kernel
theorem boot_str : bootBuiltins "str" = some (.type "str") := by decide +kernel
theorem boot_tuple : bootBuiltins "tuple" = some (.type "tuple") := by decide +kernel
theorem boot_list : bootBuiltins "list" = some (.type "list") := by decide +kernel
theorem boot_set : bootBuiltins "set" = some (.type "set") := by decide +kernel
theorem boot_sorted : bootBuiltins "sorted" = some (.builtin "sorted") := by decide +kernel
theorem boot_len : bootBuiltins "len" = some (.builtin "len") := by decide +kernel
theorem boot_all : bootBuiltins "all" = some (.builtin "all") := by decide +kernel
theorem boot_zip : bootBuiltins "zip" = some (.type "zip") := by decide +kernel
theorem boot_sum : bootBuiltins "sum" = some (.builtin "sum") := by decide +kernel
theorem boot_max : bootBuiltins "max" = some (.builtin "max") := by decide +kernel
theorem boot_min : bootBuiltins "min" = some (.builtin "min") := by decide +kernel
theorem boot_enumerate : bootBuiltins "enumerate" = some (.type "enumerate") := by decide +kernel
theorem boot_range : bootBuiltins "range" = some (.type "range") := by decide +kernel
theorem boot_dict : bootBuiltins "dict" = some (.type "dict") := by decide +kernel
structure CallOk (P : Program) (w : World) (K : PySem.W.Frag) (mg : Str → Option Value) (base : Heap) (k : Nat) (x : Str) (ps : List Str) (dvs : List V) (sp : Sp) : Prop where
  ex : ∃ (f : Addr) (fd : FuncData) (ds : List Value), FnOk P w K mg base CX0 k f fd ps sp ∧ mg x = some (.ref f) ∧ PySem.W.keepIn K (.ref f) = true ∧ Binds K fd ps ds ∧ Vals dvs ds
structure MethOk (P : Program) (w : World) (K : PySem.W.Frag) (mg : Str → Option Value) (base : Heap) (k : Nat) (C : Addr) (m : Str) (ps : List Str) (sp : Sp) : Prop where
  ex : ∃ (f : Addr) (fd : FuncData), FnOk P w K mg base CX0 k f fd ps sp ∧ Cls K C ∧ Meth K C m f ∧ Binds K fd ps []
structure MakeOk (P : Program) (w : World) (K : PySem.W.Frag) (mg : Str → Option Value) (base : Heap) (k : Nat) (x : Str) (C : Addr) (ps : List Str) (sp : Sp) : Prop where
  ex : ∃ (f : Addr) (fd : FuncData), FnOk P w K mg base CX0 k f fd ps sp ∧ Mk K C f ∧ mg x = some (.ref C) ∧ Binds K fd ps []
section
variable {X : Cx} {k : Nat} {x m : Str} {ps : List Str} {dvs : List V} {sp : Sp} {p pos apos : Pos} {e o : Expr} {es : List Expr} {t : TA} {ta : TE} {C : Addr}
theorem pe_callO (c : CallOk X.prog X.w X.K X.mg X.base k x ps dvs sp) (hr : Room k X.A) (ha : PA X (e :: es) t) (hg : Gl X x := by rfl) (hdb : (x == ("__debug__" : Str)) = false := by decide)
    (he : starEach (e :: es) X.env = (false, eval e X.env) :: starEach es X.env := by rfl) (hpl : (backTo pos (starEach es X.env)).any (·.1) = false := by rfl) :
    PE X (.Call (.Name x p) (e :: es) [] pos) (tCall sp dvs E0 t) := by
  obtain ⟨f, fd, ds, F, hm, hk, hb, hd⟩ := c.ex
  exact pe_call F hr hg hm hk hb hd pass0 ha hdb he hpl
theorem pe_methO {pl : Sem Bool} (c : MethOk X.prog X.w X.K X.mg X.base k C m ps sp) (hr : Room k X.A) (ho : PE X o ta) (ha : PA X (e :: es) t)
    (hst : starEach (e :: es) X.env = (false, eval e X.env) :: starEach es X.env := by rfl) (hpl : (backTo pos (starEach es X.env)).any (·.1) = false := by rfl)
    (ht : eval (.Call (.Attribute o m apos) (e :: es) [] pos) X.env = (do
      let ov ← eval o X.env
      standAt apos.atName
      let (f, first) ← holding [ov] (getMethod ov m pl)
      callWith pos f first (backTo pos (starEach (e :: es) X.env)) (backToKw pos (keywordEach [] X.env))) := by rfl) :
    PE X (.Call (.Attribute o m apos) (e :: es) [] pos) (tMeth C m sp [] E0 ta t) := by
  obtain ⟨f, fd, F, cl, hm, hb⟩ := c.ex
  exact pe_meth (pl := pl) ho cl hm F hr hb .nil pass0 ha hst hpl ht
theorem pe_methO0 {pl : Sem Bool} (c : MethOk X.prog X.w X.K X.mg X.base k C m ps sp) (hr : Room k X.A) (ho : PE X o ta)
    (ht : eval (.Call (.Attribute o m apos) [] [] pos) X.env = (do
      let ov ← eval o X.env
      standAt apos.atName
      let (f, first) ← holding [ov] (getMethod ov m pl)
      callWith pos f first (backTo pos (starEach [] X.env)) (backToKw pos (keywordEach [] X.env))) := by rfl) :
    PE X (.Call (.Attribute o m apos) [] [] pos) (tMeth C m sp [] E0 ta tNil) := by
  obtain ⟨f, fd, F, cl, hm, hb⟩ := c.ex
  exact pe_meth0 (pl := pl) ho cl hm F hr hb .nil pass0 ht
theorem pe_makeO (c : MakeOk X.prog X.w X.K X.mg X.base k x C ps sp) (hr : Room (k + 1) X.A) (ha : PA X (e :: es) t) (hg : Gl X x := by rfl) (hdb : (x == ("__debug__" : Str)) = false := by decide)
    (he : starEach (e :: es) X.env = (false, eval e X.env) :: starEach es X.env := by rfl) (hpl : (backTo pos (starEach es X.env)).any (·.1) = false := by rfl) :
    PE X (.Call (.Name x p) (e :: es) [] pos) (tMake C sp [] E0 t) := by
  obtain ⟨f, fd, F, M, hm, hb⟩ := c.ex
  exact pe_make M F hr hg hm hb .nil pass0 ha hdb he hpl
theorem pe_gint {i : Int} (hm : ∃ t, X.mg x = some (.int i t)) (hg : Gl X x := by rfl) (hd : (x == ("__debug__" : Str)) = false := by decide) : PE X (.Name x pos) (tC (.int i)) := by
  obtain ⟨t, h⟩ := hm
  exact pe_glob hg h ⟨t, rfl⟩ hd
theorem pe_gstr {z : Str} (hm : ∃ t, X.mg x = some (.str z t)) (hg : Gl X x := by rfl) (hd : (x == ("__debug__" : Str)) = false := by decide) : PE X (.Name x pos) (tC (.str z)) := by
  obtain ⟨t, h⟩ := hm
  exact pe_glob hg h ⟨t, rfl⟩ hd
theorem pe_gref {a : Addr} (hm : X.mg x = some (.ref a)) (hg : Gl X x := by rfl) (hd : (x == ("__debug__" : Str)) = false := by decide) : PE X (.Name x pos) (tC (.ref a)) := pe_glob hg hm rfl hd
theorem pe_gty {n : String} (hm : X.mg x = none) (hv : bootBuiltins x = some (.type n)) (hg : Gl X x := by rfl) (hn : x ≠ "__name__" := by decide) (hd : (x == ("__debug__" : Str)) = false := by decide) : PE X (.Name x pos) (tC (.ty n)) := pe_bltn hg hm hv rfl hn hd
end
section
variable {P : Program} {w : World} {K : PySem.W.Frag} {mg : Str → Option Value} {base : Heap}
theorem funD_ok {x qual : Str} {params : Arguments} {body : List Stmt} {scope : Scope} {dvs : List V} {kws : List (Str × V)} {f : Addr} {fd : FuncData} {N ps : List Str} {k : Nat} {sp : Sp} (F : FunD K x qual params body scope dvs kws f fd) (S : FnScope N ps scope)
    (len : ∀ vs H Q E, sp vs H Q E → vs.length = ps.length)
    (hbody : ∀ (cdv : Value) (A : Around) (outer : List Env) (s : Shared) (H : Hp) (vs : List V) (Q : VK) (E : XK), Room k (A.deeper (envOfC qual scope s.heap.objs.size f cdv)) → sp vs H Q E →
      ∃ t, PSs (cxOf CX0 P w K mg base N qual scope f cdv A outer s H E).nox body t ∧ t { nx := fun _ H' => Q .non H', rt := Q } (start N vs) H) : FnOk P w K mg base CX0 (k + 1) f fd ps sp :=
  F.ok S len fun cdv A outer s H vs Q E hr h => by
    obtain ⟨t, ht, q⟩ := hbody cdv A outer s H vs Q E hr h
    exact ⟨t, PSs.nox ht, q⟩
theorem call_ok {x : Str} {st : Stmt} {N ps : List Str} {k : Nat} {sp : Sp} (T : Txt K mg) (i : Nat) (hg : mg x = some (.ref (He.ga K x))) (S : FnScope N ps (defScope st))
    (len : ∀ vs H Q E, sp vs H Q E → vs.length = ps.length)
    (hbody : ∀ (f : Addr) (cdv : Value) (A : Around) (outer : List Env) (s : Shared) (H : Hp) (vs : List V) (Q : VK) (E : XK), Room k (A.deeper (envOfC x (defScope st) s.heap.objs.size f cdv)) → sp vs H Q E →
      ∃ t, PSs (cxOf CX0 P w K mg base N x (defScope st) f cdv A outer s H E).nox (defBody st) t ∧ t { nx := fun _ H' => Q .non H', rt := Q } (start N vs) H)
    (hb : ∀ (kV doc pm : Value) (an : Option Addr) (cdv ct : Value) (us : List Value), us.length = ps.length → bindArgs (PySem.W.fnOf x x (defArgs st) (defBody st) (defScope st) .none kV doc pm an cdv ct) ⟨us, []⟩ = pure (ps.zip us))
    (e : fn[i]? = some (mkD (x, none) x x st []) := by rfl) : CallOk P w K mg base (k + 1) x ps [] sp := by
  obtain ⟨fd, F⟩ := T.d.def_ i e
  have F' : FunD K x x (defArgs st) (defBody st) (defScope st) [] [] (He.ga K x) fd := F
  exact ⟨He.ga K x, fd, [], funD_ok F' S len (hbody _), hg, F'.kp, F'.bindsN hb, .nil⟩
theorem meth_ok {c x q : Str} {st : Stmt} {N ps : List Str} {k : Nat} {sp : Sp} (T : Txt K mg) (i : Nat) (hc : Cls K (He.ga K c)) (hm : Meth K (He.ga K c) x (He.ma K (He.ga K c) x)) (S : FnScope N ps (defScope st))
    (len : ∀ vs H Q E, sp vs H Q E → vs.length = ps.length)
    (hbody : ∀ (f : Addr) (cdv : Value) (A : Around) (outer : List Env) (s : Shared) (H : Hp) (vs : List V) (Q : VK) (E : XK), Room k (A.deeper (envOfC q (defScope st) s.heap.objs.size f cdv)) → sp vs H Q E →
      ∃ t, PSs (cxOf CX0 P w K mg base N q (defScope st) f cdv A outer s H E).nox (defBody st) t ∧ t { nx := fun _ H' => Q .non H', rt := Q } (start N vs) H)
    (hb : ∀ (kV doc pm : Value) (an : Option Addr) (cdv ct : Value) (us : List Value), us.length = ps.length → bindArgs (PySem.W.fnOf x q (defArgs st) (defBody st) (defScope st) .none kV doc pm an cdv ct) ⟨us, []⟩ = pure (ps.zip us))
    (e : fn[i]? = some (mkD (c, some x) x q st []) := by rfl) : MethOk P w K mg base (k + 1) (He.ga K c) x ps sp := by
  obtain ⟨fd, F⟩ := T.d.def_ i e
  have F' : FunD K x q (defArgs st) (defBody st) (defScope st) [] [] (He.ma K (He.ga K c) x) fd := F
  exact ⟨He.ma K (He.ga K c) x, fd, funD_ok F' S len (hbody _), hc, hm, F'.bindsN hb⟩
theorem make_ok {c q : Str} {st : Stmt} {N ps : List Str} {k : Nat} {sp : Sp} (T : Txt K mg) (i : Nat) (hg : mg c = some (.ref (He.ga K c))) (hm : Mk K (He.ga K c) (He.ma K (He.ga K c) "__init__")) (S : FnScope N ps (defScope st))
    (len : ∀ vs H Q E, sp vs H Q E → vs.length = ps.length)
    (hbody : ∀ (f : Addr) (cdv : Value) (A : Around) (outer : List Env) (s : Shared) (H : Hp) (vs : List V) (Q : VK) (E : XK), Room k (A.deeper (envOfC q (defScope st) s.heap.objs.size f cdv)) → sp vs H Q E →
      ∃ t, PSs (cxOf CX0 P w K mg base N q (defScope st) f cdv A outer s H E).nox (defBody st) t ∧ t { nx := fun _ H' => Q .non H', rt := Q } (start N vs) H)
    (hb : ∀ (kV doc pm : Value) (an : Option Addr) (cdv ct : Value) (us : List Value), us.length = ps.length → bindArgs (PySem.W.fnOf "__init__" q (defArgs st) (defBody st) (defScope st) .none kV doc pm an cdv ct) ⟨us, []⟩ = pure (ps.zip us))
    (e : fn[i]? = some (mkD (c, some "__init__") "__init__" q st []) := by rfl) : MakeOk P w K mg base (k + 1) c (He.ga K c) ps sp := by
  obtain ⟨fd, F⟩ := T.d.def_ i e
  have F' : FunD K "__init__" q (defArgs st) (defBody st) (defScope st) [] [] (He.ma K (He.ga K c) "__init__") fd := F
  exact ⟨He.ma K (He.ga K c) "__init__", fd, funD_ok F' S len (hbody _), hm, hg, F'.bindsN hb⟩
end
end Lv
set_option maxHeartbeats 4000000
namespace Lv
open PySem PySem.Spec PyProof.Rows L2
theorem hu64_of {A : Around} {k : Nat} (r : Room k A) : A.units + 64 < cLine := by
  have := r.un
  omega
section
variable {X : Cx} {K : PySem.W.Frag} {e o a : Expr} {es : List Expr} {ta to te : TE} {t : TA} {f name : Str} {pos apos cpos tpos p : Pos} {T id : String} {tg l : Expr} {tl : TE}
theorem fldK (he : PE X e ta) (hb : attributeBase e f X.env (eval e X.env) = eval e X.env) (hK : X.K = K := by rfl) : PE X (.Attribute e f pos) (tFld K ta f) := by
  subst hK
  exact pe_fld he hb
theorem ixL (hK : X.K = K := by rfl) : IxR X (rIxL K) := by
  subst hK
  exact ix_list
theorem ixT (hK : X.K = K := by rfl) : IxR X (rIxT K) := by
  subst hK
  exact ix_tup
theorem slLK (hK : X.K = K := by rfl) : SlR X (rSlL K) := by
  subst hK
  exact sl_list
theorem slTK (hK : X.K = K := by rfl) : SlR X (rSlT K) := by
  subst hK
  exact sl_tup
theorem slAK (hK : X.K = K := by rfl) : SlR X (rSlA K) := by
  subst hK
  exact sl_tupA
theorem inSK (hK : X.K = K := by rfl) : OpR X (compareOp .In) (rIn K false) := by
  subst hK
  exact op_in_seq
theorem ninSK (hK : X.K = K := by rfl) : OpR X (compareOp .NotIn) (rIn K true) := by
  subst hK
  exact op_notIn_seq
theorem eqDK (hu : X.A.units + 64 < cLine) (hK : X.K = K := by rfl) : OpR X (compareOp .Eq) (rEqD K) := by
  subst hK
  exact op_eqD hu
theorem neDK (hu : X.A.units + 64 < cLine) (hK : X.K = K := by rfl) : OpR X (compareOp .NotEq) (rNeD K) := by
  subst hK
  exact op_neD hu
theorem catTK (hK : X.K = K := by rfl) : OpR X (binaryOp .Add) (rCatT K) := by
  subst hK
  exact op_catT
theorem lenSK (hK : X.K = K := by rfl) : CallR X (.builtin "len") (fun xs H Q => ∃ p ys, xs = [.ref p] ∧ (SqL K H p ys ∨ SqT K H p ys) ∧ Q (.int ys.length) H) := by
  subst hK
  exact call_len_seq
theorem isiK (hK : X.K = K := by rfl) : CallR X (.builtin "isinstance") (rIsi K) := by
  subst hK
  exact call_isi
theorem isiTK (hK : X.K = K := by rfl) : CallR X (.builtin "isinstance") (rIsiT K) := by
  subst hK
  exact call_isiT
theorem allK (hc : X.calm = true := by rfl) (hK : X.K = K := by rfl) : CallR X (.builtin "all") (rAll K) := by
  subst hK
  exact cr_all hc
theorem sumK (hc : X.calm = true := by rfl) (hK : X.K = K := by rfl) : CallR X (.builtin "sum") (rSum K) := by
  subst hK
  exact cr_sum hc
theorem sortedSK (hK : X.K = K := by rfl) : CallR X (.builtin "sorted") (rSortedS K) := by
  subst hK
  exact cr_sortedS
theorem listOfK (hK : X.K = K := by rfl) : CallR X (.type "list") (fun xs H Q => ∃ p ys, xs = [.ref p] ∧ (SqL K H p ys ∨ SqT K H p ys) ∧ ∀ l, H l = none → Q (.ref l) (upd H l (.lst ys))) := by
  subst hK
  exact call_list_of
theorem tupleOfK (hK : X.K = K := by rfl) : CallR X (.type "tuple") (fun xs H Q => ∃ p ys, xs = [.ref p] ∧ ((SqL K H p ys ∧ ∀ l, H l = none → Q (.ref l) (upd H l (.tup ys))) ∨ (SqT K H p ys ∧ Q (.ref p) H))) := by
  subst hK
  exact call_tuple_of
theorem truthK (ha : PE X a ta) (he : ∀ whole, isTrue a X.env whole = (do let v ← whole; standAt a.pos; holding [v] (truthy v)) := by intro _; rfl) (hK : X.K = K := by rfl) :
    PT X a (fun σ H Q => ta σ H fun x H' => ∃ k, TruV K x H' k ∧ Q k H') := by
  subst hK
  exact pt_truth ha he
end
end Lv
set_option maxHeartbeats 4000000
namespace Lv
open PySem PySem.Spec PyProof.Rows L2
def sp1 (f : V → Hp → VK → Prop) : Sp := fun vs H Q _ => ∃ x0, vs = [x0] ∧ f x0 H Q
def sp2 (f : V → V → Hp → VK → Prop) : Sp := fun vs H Q _ => ∃ x0 x1, vs = [x0, x1] ∧ f x0 x1 H Q
def sp3 (f : V → V → V → Hp → VK → Prop) : Sp := fun vs H Q _ => ∃ x0 x1 x2, vs = [x0, x1, x2] ∧ f x0 x1 x2 H Q
def sp4 (f : V → V → V → V → Hp → VK → Prop) : Sp := fun vs H Q _ => ∃ x0 x1 x2 x3, vs = [x0, x1, x2, x3] ∧ f x0 x1 x2 x3 H Q
def sp5 (f : V → V → V → V → V → Hp → VK → Prop) : Sp := fun vs H Q _ => ∃ x0 x1 x2 x3 x4, vs = [x0, x1, x2, x3, x4] ∧ f x0 x1 x2 x3 x4 H Q
theorem iteB {c : Bool} {A B : Prop} (h1 : c = true → A) (h2 : c = false → B) : if c = true then A else B := by
  cases c with
  | true => exact iteT (h1 rfl)
  | false => exact iteF (h2 rfl)
theorem k_int_int : kitB "int" "int" = some true := by decide +kernel
theorem k_int_bool : kitB "int" "bool" = some false := by decide +kernel
theorem k_str_str : kitB "str" "str" = some true := by decide +kernel
theorem k_bool_bool : kitB "bool" "bool" = some true := by decide +kernel
theorem k_tup_tup : kitB "tuple" "tuple" = some true := by decide +kernel
theorem k_int_str : kitB "int" "str" = some false := by decide +kernel
theorem k_str_bool : kitB "str" "bool" = some false := by decide +kernel
theorem k_lst_tup : kitB "list" "tuple" = some false := by decide +kernel
theorem k_lst_lst : kitB "list" "list" = some true := by decide +kernel
theorem k_non_tup : kitB "NoneType" "tuple" = some false := by decide +kernel
theorem k_non_lst : kitB "NoneType" "list" = some false := by decide +kernel
theorem k_int_tup : kitB "int" "tuple" = some false := by decide +kernel
theorem k_int_lst : kitB "int" "list" = some false := by decide +kernel
theorem k_str_tup : kitB "str" "tuple" = some false := by decide +kernel
theorem k_str_lst : kitB "str" "list" = some false := by decide +kernel
theorem k_bool_tup : kitB "bool" "tuple" = some false := by decide +kernel
theorem k_bool_lst : kitB "bool" "list" = some false := by decide +kernel
section
variable {P : Program} {w : World} {K : PySem.W.Frag} {mg : Str → Option Value} {base : Heap}
def sp_is_whole : Sp := sp3 fun v l m H Q => ∃ n a : Int, v = .int n ∧ l = .int a ∧ ((m = .non ∧ Q (.bl (decide (a ≤ n))) H) ∨ ∃ b : Int, m = .int b ∧ Q (.bl (decide (a ≤ n ∧ n ≤ b))) H)
abbrev N_is_whole : List Str := ["value", "least", "most"]
theorem sc_is_whole : FnScope N_is_whole ["value", "least", "most"] (defScope s_is_whole) := ⟨rfl, rfl, rfl, by decide +kernel, rfl, by decide +kernel, by decide +kernel⟩
theorem fn_is_whole {f : Addr} {fd : FuncData} (T : Txt K mg) (F : FunD K "is_whole" "is_whole" (defArgs s_is_whole) (defBody s_is_whole) (defScope s_is_whole) [.non] [] f fd) : FnOk P w K mg base CX0 1 f fd ["value", "least", "most"] sp_is_whole := by
  refine funD_ok F sc_is_whole (fun vs H Q E h => ?_) (fun cdv A outer s H vs Q E hr h => ?_)
  · obtain ⟨_, _, _, rfl, _⟩ := h
    rfl
  · have hu := hu_of hr
    obtain ⟨v, l, m, rfl, n, a, rfl, rfl, h⟩ := h
    refine ⟨_, (pss_cons (ps_if (PW.pt (pw_or (pt_not (pt_val (pe_callB (isiK (K := K)) (by rfl) T.b_isinstance boot_isinstance (pa_cons (pv 0) (pa_cons (pe_gty T.b_int boot_int) pa_nil))))) (pw_or (pt_val (pe_callB (isiK (K := K)) (by rfl) T.b_isinstance boot_isinstance (pa_cons (pv 0) (pa_cons (pe_gty T.b_bool boot_bool) pa_nil)))) (pw_or1 (pt_cmpR op_lt (pv 0) (pv 1) (nomark _)))))) (pss_one (ps_ret pe_bl)) pss_nil) (pss_one (ps_ret (pe_or (pe_cmpR op_isN (pv 2) pe_non (nomark _)) (pe_one (pe_cmpR op_le (pv 0) (pv 2) (nomark _))))))), ?_⟩
    refine ⟨_, rfl, _, _, .type "int", _, _, rfl, .ty _, .base (.int _), kit_ty k_int_int, _, rfl, iteF ?_⟩
    refine ⟨_, rfl, _, _, .type "int", _, _, rfl, .ty _, .base (.int _), kit_ty k_int_bool, _, rfl, iteF ?_⟩
    refine ⟨_, rfl, _, rfl, _, _, rfl, rfl, _, rfl, ?_⟩
    refine ite2 (fun hlt => ?_) (fun hlt => ?_)
    · have hlt : n < a := of_decide_eq_true hlt
      rcases h with ⟨rfl, q⟩ | ⟨b, rfl, q⟩
      · rw [decide_eq_false (by omega)] at q
        exact q
      · rw [decide_eq_false (by omega)] at q
        exact q
    · have hlt : ¬ n < a := fun z => hlt (decide_eq_true z)
      rcases h with ⟨rfl, q⟩ | ⟨b, rfl, q⟩
      · refine ⟨_, rfl, rfl, _, rfl, iteT ?_⟩
        rw [decide_eq_true (by omega)] at q
        exact q
      · refine ⟨_, rfl, rfl, _, rfl, iteF ?_⟩
        refine ⟨_, rfl, _, rfl, _, _, rfl, rfl, ?_⟩
        have e : decide (a ≤ n ∧ n ≤ b) = decide (n ≤ b) := by
          have h1 : a ≤ n := by omega
          simp [h1]
        rw [e] at q
        exact q
theorem ok_is_whole (T : Txt K mg) : CallOk P w K mg base 1 "is_whole" ["value", "least", "most"] [] sp_is_whole := by
  obtain ⟨fd, F⟩ := T.d.def_ 0 (d := d_is_whole) rfl
  have F' : FunD K "is_whole" "is_whole" (defArgs s_is_whole) (defBody s_is_whole) (defScope s_is_whole) [.non] [] (He.ga K "is_whole") fd := F
  obtain ⟨ds, rv, hb⟩ := F'.binds1 (ps := ["value", "least", "most"]) 3 1 (by simp) rfl fun T kV doc pm an cdv ct us its hl hi => by
    match us, hl, its, hi with
    | [_, _, _], _, [_], _ => exact ⟨_, rfl, rfl⟩
  exact ⟨He.ga K "is_whole", fd, ds, fn_is_whole T F', T.g_is_whole, F'.kp, hb, rv⟩
theorem ok_is_whole2 (T : Txt K mg) : CallOk P w K mg base 1 "is_whole" ["value", "least", "most"] [.non] sp_is_whole := by
  obtain ⟨fd, F⟩ := T.d.def_ 0 (d := d_is_whole) rfl
  have F' : FunD K "is_whole" "is_whole" (defArgs s_is_whole) (defBody s_is_whole) (defScope s_is_whole) [.non] [] (He.ga K "is_whole") fd := F
  obtain ⟨ds, rv, hb⟩ := F'.binds1 (ps := ["value", "least", "most"]) 2 0 (by simp) rfl fun T kV doc pm an cdv ct us its hl hi => by
    match us, hl, its, hi with
    | [_, _], _, [_], _ => exact ⟨_, rfl, rfl⟩
  exact ⟨He.ga K "is_whole", fd, ds, fn_is_whole T F', T.g_is_whole, F'.kp, hb, rv⟩
def sp_is_listed : Sp := sp1 fun v H Q => ∃ a, v = .ref a ∧ ((∃ xs, H a = some (.tup xs)) ∨ ∃ xs, H a = some (.lst xs)) ∧ ∀ H', Same H H' → Q (.bl true) H'
abbrev N_is_listed : List Str := ["value"]
theorem sc_is_listed : FnScope N_is_listed ["value"] (defScope s_is_listed) := ⟨rfl, rfl, rfl, by decide +kernel, rfl, by decide +kernel, by decide +kernel⟩
theorem ok_is_listed (T : Txt K mg) : CallOk P w K mg base 1 "is_listed" ["value"] [] sp_is_listed := by
  refine call_ok T 1 T.g_is_listed sc_is_listed (fun vs H Q E h => ?_) (fun f cdv A outer s H vs Q E hr h => ?_) (fun _ _ _ _ _ _ us hl => match us, hl with | [_], _ => rfl)
  · obtain ⟨x0, rfl, _⟩ := h
    rfl
  · have nd := sc_is_listed.nd
    have hu := hu_of hr
    have hu64 := hu64_of hr
    obtain ⟨x0, rfl, h⟩ := h
    refine ⟨_, (pss_one (ps_ret (pe_callB (isiTK (K := K)) (by rfl) T.b_isinstance boot_isinstance (pa_cons (pv 0) (pa_cons (pe_tup (pa_cons (pe_gty T.b_tuple boot_tuple) (pa_cons (pe_gty T.b_list boot_list) pa_nil))) pa_nil))))), ?_⟩
    obtain ⟨a, rfl, h, q⟩ := h
    refine ⟨_, rfl, (by show 2 ≤ sizeLine; decide), fun t ht => ?_⟩
    have sm : Same H (upd H t (.tup [.ty "tuple", .ty "list"])) := fun b o e => by rw [upd_ne (ne_of_none e ht)]; exact e
    rcases h with ⟨xs, h⟩ | ⟨xs, h⟩
    · exact ⟨_, t, _, .type "tuple", [.type "tuple", .type "list"], true, rfl, upd_same, .cons (.ty _) (.cons (.ty _) .nil), .base (.tup (sm _ _ h)), rfl, q _ sm⟩
    · exact ⟨_, t, _, .type "list", [.type "tuple", .type "list"], true, rfl, upd_same, .cons (.ty _) (.cons (.ty _) .nil), .base (.lst (sm _ _ h)),
        kitAny_cons (b := false) (kit_ty k_lst_tup) (fun _ => kitAny_cons (b := true) (kit_ty k_lst_lst) (fun z => by cases z) (fun _ => rfl)) (fun z => by cases z), q _ sm⟩
end
end Lv
set_option maxHeartbeats 4000000
namespace Lv
open PySem PySem.Spec PyProof.Rows L2
def Tk (H H' : Hp) : Prop := ∀ a xs, H a = some (.tup xs) → H' a = some (.tup xs)
def But (S : Addr → Prop) (H H' : Hp) : Prop := ∀ b o, H b = some o → ¬ S b → H' b = some o
section
variable {H H1 H2 H3 : Hp} {a b p D : Addr} {o u : HO} {S S1 S2 : Addr → Prop}
theorem same_new (h : H a = none) : Same H (upd H a o) := fun b u e => by rw [upd_ne (ne_of_none e h)]; exact e
theorem same_to (s : Same H1 H2) (h : H2 a = none) : Same H1 (upd H2 a o) := s.trans (same_new h)
theorem same_upd (s : Same H1 H2) (h : H1 a = none) : Same H1 (upd H2 a o) := fun b u e => by rw [upd_ne (ne_of_none e h)]; exact s b u e
theorem Tk.refl : Tk H H := fun _ _ h => h
theorem Tk.trans (x : Tk H1 H2) (y : Tk H2 H3) : Tk H1 H3 := fun a xs h => y a xs (x a xs h)
theorem tk_same (s : Same H1 H2) : Tk H1 H2 := fun a xs h => s a _ h
theorem tk_new (h : H a = none) : Tk H (upd H a o) := tk_same (same_new h)
theorem tk_mut (h : H a = some o) (n : ∀ xs, o ≠ .tup xs) : Tk H (upd H a u) := fun b xs e => by
  rw [upd_ne fun z => ?_]
  · exact e
  · subst z
    rw [h] at e
    exact n xs (Option.some.inj e)
theorem but_refl : But S H H := fun _ _ h _ => h
theorem But.trans (x : But S H1 H2) (y : But S H2 H3) : But S H1 H3 := fun b o h n => y b o (x b o h n) n
theorem but_same (s : Same H1 H2) : But S H1 H2 := fun b o h _ => s b o h
theorem But.mono (x : But S1 H1 H2) (h : ∀ b, S1 b → S2 b) : But S2 H1 H2 := fun b o e n => x b o e fun z => n (h b z)
theorem but_mut (h : S a) : But S H (upd H a o) := fun b u e n => by rw [upd_ne fun z => n (by rw [z]; exact h)]; exact e
theorem But.upd (x : But S H1 H2) (h : S a) : But S H1 (L2.upd H2 a o) := x.trans (but_mut h)
theorem But.upd_new (x : But S H1 H2) (h : H2 a = none) : But S H1 (L2.upd H2 a o) := x.trans (but_same (same_new h))
theorem But.upd_free (x : But S H1 H2) (h : H1 a = none) : But S H1 (L2.upd H2 a o) := fun b u e n => by rw [upd_ne (ne_of_none e h)]; exact x b u e n
theorem but_tk (x : But S H1 H2) (h : ∀ b, S b → ∀ xs, H1 b ≠ some (.tup xs)) : Tk H1 H2 := fun a xs e => x a _ e fun z => h a z xs e
theorem But.free (x : But S H1 H2) (h : H2 a = none) (n : ¬ S a) : H1 a = none := by
  cases q : H1 a with
  | none => rfl
  | some o =>
    rw [x a o q n] at h
    cases h
end
abbrev But1 (p : Addr) (H H' : Hp) : Prop := But (· = p) H H'
inductive Dt where
  | non
  | bl (b : Bool)
  | int (i : Int)
  | str (x : Str)
  | tup (l : List Dt)
mutual
def Tv (H : Hp) : Dt → V → Prop
  | .non, v => v = .non
  | .bl b, v => v = .bl b
  | .int i, v => v = .int i
  | .str x, v => v = .str x
  | .tup l, v => ∃ a xs, v = .ref a ∧ H a = some (.tup xs) ∧ TvAll H l xs
def TvAll (H : Hp) : List Dt → List V → Prop
  | [], [] => True
  | d :: ds, v :: vs => Tv H d v ∧ TvAll H ds vs
  | [], _ :: _ => False
  | _ :: _, [] => False
end
mutual
theorem Tv.keep {H H' : Hp} (k : Tk H H') : ∀ {d : Dt} {v : V}, Tv H d v → Tv H' d v
  | .non, v, h => h
  | .bl b, v, h => h
  | .int i, v, h => h
  | .str x, v, h => h
  | .tup l, v, h => by
    obtain ⟨a, xs, e, e2, h2⟩ := h
    exact ⟨a, xs, e, k _ _ e2, TvAll.keep k h2⟩
theorem TvAll.keep {H H' : Hp} (k : Tk H H') : ∀ {ds : List Dt} {vs : List V}, TvAll H ds vs → TvAll H' ds vs
  | [], [], h => True.intro
  | d :: ds, v :: vs, h => ⟨Tv.keep k h.1, TvAll.keep k h.2⟩
  | [], _ :: _, h => h.elim
  | _ :: _, [], h => h.elim
end
theorem TvAll.length {H : Hp} : ∀ {ds : List Dt} {vs : List V}, TvAll H ds vs → ds.length = vs.length
  | [], [], _ => rfl
  | d :: ds, v :: vs, h => by simp [TvAll.length h.2]
  | [], _ :: _, h => h.elim
  | _ :: _, [], h => h.elim
theorem TvAll.get {H : Hp} : ∀ {ds : List Dt} {vs : List V} {i : Nat} {v : V}, TvAll H ds vs → vs[i]? = some v → ∃ d, ds[i]? = some d ∧ Tv H d v
  | [], [], _, _, _, e => by simp at e
  | d :: ds, v :: vs, 0, x, h, e => by
    simp at e
    subst e
    exact ⟨d, rfl, h.1⟩
  | d :: ds, v :: vs, i + 1, x, h, e => by
    obtain ⟨d', h1, h2⟩ := TvAll.get (i := i) h.2 (by simpa using e)
    exact ⟨d', by simpa using h1, h2⟩
  | [], _ :: _, _, _, h, _ => h.elim
  | _ :: _, [], _, _, h, _ => h.elim
theorem TvAll.getD {H : Hp} : ∀ {ds : List Dt} {vs : List V} {i : Nat} {d : Dt}, TvAll H ds vs → ds[i]? = some d → ∃ v, vs[i]? = some v ∧ Tv H d v
  | [], [], _, _, _, e => by simp at e
  | d :: ds, v :: vs, 0, x, h, e => by
    simp at e
    subst e
    exact ⟨v, rfl, h.1⟩
  | d :: ds, v :: vs, i + 1, x, h, e => by
    obtain ⟨d', h1, h2⟩ := TvAll.getD (i := i) h.2 (by simpa using e)
    exact ⟨d', by simpa using h1, h2⟩
  | [], _ :: _, _, _, h, _ => h.elim
  | _ :: _, [], _, _, h, _ => h.elim
theorem TvAll.app {H : Hp} : ∀ {ds : List Dt} {vs : List V} {es : List Dt} {us : List V}, TvAll H ds vs → TvAll H es us → TvAll H (ds ++ es) (vs ++ us)
  | [], [], _, _, _, h2 => h2
  | d :: ds, v :: vs, _, _, h, h2 => ⟨h.1, TvAll.app h.2 h2⟩
  | [], _ :: _, _, _, h, _ => h.elim
  | _ :: _, [], _, _, h, _ => h.elim
theorem TvAll.one {H : Hp} {d : Dt} {v : V} (h : Tv H d v) : TvAll H [d] [v] := ⟨h, True.intro⟩
theorem TvAll.take {H : Hp} : ∀ {ds : List Dt} {vs : List V} (n : Nat), TvAll H ds vs → TvAll H (ds.take n) (vs.take n)
  | [], [], n, _ => by simp [TvAll]
  | d :: ds, v :: vs, 0, h => True.intro
  | d :: ds, v :: vs, n + 1, h => ⟨h.1, TvAll.take n h.2⟩
  | [], _ :: _, _, h => h.elim
  | _ :: _, [], _, h => h.elim
theorem TvAll.drop {H : Hp} : ∀ {ds : List Dt} {vs : List V} (n : Nat), TvAll H ds vs → TvAll H (ds.drop n) (vs.drop n)
  | [], [], n, _ => by simp [TvAll]
  | d :: ds, v :: vs, 0, h => h
  | d :: ds, v :: vs, n + 1, h => TvAll.drop n h.2
  | [], _ :: _, _, h => h.elim
  | _ :: _, [], _, h => h.elim
theorem TvAll.strs {H : Hp} : ∀ {zs : List Str} {vs : List V}, TvAll H (zs.map Dt.str) vs ↔ vs = zs.map V.str
  | [], [] => by simp [TvAll]
  | [], _ :: _ => by simp [TvAll]
  | _ :: _, [] => by simp [TvAll]
  | z :: zs, v :: vs => by
    have h := TvAll.strs (H := H) (zs := zs) (vs := vs)
    simp only [List.map_cons, TvAll, Tv, List.cons.injEq, h]
theorem TvAll.ints {H : Hp} : ∀ {zs : List Int} {vs : List V}, TvAll H (zs.map Dt.int) vs ↔ vs = zs.map V.int
  | [], [] => by simp [TvAll]
  | [], _ :: _ => by simp [TvAll]
  | _ :: _, [] => by simp [TvAll]
  | z :: zs, v :: vs => by
    have h := TvAll.ints (H := H) (zs := zs) (vs := vs)
    simp only [List.map_cons, TvAll, Tv, List.cons.injEq, h]
theorem Tv.tup {H : Hp} {a : Addr} {xs : List V} {ds : List Dt} (e : H a = some (.tup xs)) (h : TvAll H ds xs) : Tv H (.tup ds) (.ref a) := ⟨a, xs, rfl, e, h⟩
theorem Tv.new {H : Hp} {a : Addr} {xs : List V} {ds : List Dt} (n : H a = none) (h : TvAll H ds xs) : Tv (upd H a (.tup xs)) (.tup ds) (.ref a) := ⟨a, xs, rfl, upd_same, h.keep (tk_new n)⟩
section
variable {J : It} {n : Nat} {G : Hp → Prop} {Y : Nat → Hp → V → Hp → Prop}
def LcI (H1 : Hp) (D : Addr) (R : Nat → List V → Hp → Prop) (i : Nat) (H : Hp) : Prop := ∃ l : List V, l.length ≤ i ∧ Same H1 H ∧ H D = some (.lst l) ∧ R i l H
theorem lc_rel (wk : Walk J n G Y) {g : TG} {tt : TT} {te : TE} {vs : List Nat} {σ : L2.St} {H1 : Hp} {D : Addr} {Qd : Hp → Prop} (R : Nat → List V → Hp → Prop) (hD : H1 D = none) (hG : ∀ H, Same H1 H → G H)
    (h0 : R 0 [] (upd H1 D (.lst [])))
    (hs : ∀ i x l H H', i < n → l.length ≤ i → Same H1 H → H D = some (.lst l) → R i l H → Y i H x H' → g x (wipe σ vs) H' fun σ2 H2 => wipe σ2 vs = wipe σ vs ∧ tt σ2 H2 fun b H3 =>
      if b = true then te σ2 H3 fun y H4 => ∃ acc, H4 D = some (.lst acc) ∧ acc.length < sizeLine ∧ LcI H1 D R (i + 1) (upd H4 D (.lst (acc ++ [y]))) else LcI H1 D R (i + 1) H3)
    (hd : ∀ l H, l.length ≤ n → Same H1 H → H D = some (.lst l) → R n l H → Qd H) :
    ∃ W : Nat → Nat → Hp → Prop, (∃ m, W 0 m (upd H1 D (.lst []))) ∧ ∀ i m H, W i m H →
      (J.stop i H ∧ Qd H) ∨ (J.go i H ∧ ∃ Nx : Hp → Prop, (∀ H', Nx H' → ∃ m', m' < m ∧ W (i + 1) m' H') ∧ ∀ x H', J.yld i H x H' → g x (wipe σ vs) H' fun σ2 H2 => wipe σ2 vs = wipe σ vs ∧ tt σ2 H2 fun b H3 =>
        if b = true then te σ2 H3 fun y H4 => ∃ acc, H4 D = some (.lst acc) ∧ acc.length < sizeLine ∧ Nx (upd H4 D (.lst (acc ++ [y]))) else Nx H3) :=
  lc_it wk (LcI H1 D R) ⟨[], Nat.le_refl _, same_new hD, upd_same, h0⟩ (fun _ H _ ⟨_, _, s, _⟩ => hG H s) (fun i x H H' hi ⟨l, hl, s, e, r⟩ y => hs i x l H H' hi hl s e r y) fun H ⟨l, hl, s, e, r⟩ => hd l H hl s e r
theorem lc_take {H1 H4 : Hp} {D : Addr} {R : Nat → List V → Hp → Prop} {i : Nat} {l : List V} {y : V} (hD : H1 D = none) (hz : i < sizeLine) (hl : l.length ≤ i) (s : Same H1 H4) (e : H4 D = some (.lst l)) (r : R (i + 1) (l ++ [y]) (upd H4 D (.lst (l ++ [y])))) :
    ∃ acc, H4 D = some (.lst acc) ∧ acc.length < sizeLine ∧ LcI H1 D R (i + 1) (upd H4 D (.lst (acc ++ [y]))) :=
  ⟨l, e, by omega, l ++ [y], by simp; omega, same_upd s hD, upd_same, r⟩
theorem lc_skip {H1 H4 : Hp} {D : Addr} {R : Nat → List V → Hp → Prop} {i : Nat} {l : List V} (hl : l.length ≤ i) (s : Same H1 H4) (e : H4 D = some (.lst l)) (r : R (i + 1) l H4) : LcI H1 D R (i + 1) H4 := ⟨l, by omega, s, e, r⟩
abbrev RF (F : Nat → V) : Nat → List V → Hp → Prop := fun i l _ => l = (List.range i).map F
theorem lc_takeF {H1 H4 : Hp} {D : Addr} {F : Nat → V} {i : Nat} {l : List V} {y : V} (hD : H1 D = none) (hz : i < sizeLine) (hl : l.length ≤ i) (s : Same H1 H4) (e : H4 D = some (.lst l)) (r : RF F i l H4) (ey : y = F i) :
    ∃ acc, H4 D = some (.lst acc) ∧ acc.length < sizeLine ∧ LcI H1 D (RF F) (i + 1) (upd H4 D (.lst (acc ++ [y]))) :=
  lc_take hD hz hl s e (by
    have r : l = (List.range i).map F := r
    show l ++ [y] = (List.range (i + 1)).map F
    rw [r, ey, List.range_succ, List.map_append]
    rfl)
theorem all_range {α : Type} {xs : List α} {p : α → Bool} {f : Nat → Bool} (h : ∀ j x, xs[j]? = some x → f j = p x) : ((List.range xs.length).map f).all id = xs.all p := by
  have e : (List.range xs.length).map f = xs.map p := by
    refine List.ext_getElem (by simp) fun i h1 h2 => ?_
    have hi : i < xs.length := by simpa using h1
    simp only [List.getElem_map, List.getElem_range]
    exact h i xs[i] (List.getElem?_eq_getElem hi)
  rw [e, List.all_map]
  rfl
theorem map_range {α β : Type} {xs : List α} {p : α → β} {f : Nat → β} (h : ∀ j x, xs[j]? = some x → f j = p x) : (List.range xs.length).map f = xs.map p := by
  refine List.ext_getElem (by simp) fun i h1 h2 => ?_
  have hi : i < xs.length := by simpa using h1
  simp only [List.getElem_map, List.getElem_range]
  exact h i xs[i] (List.getElem?_eq_getElem hi)
end
end Lv
set_option maxHeartbeats 4000000
namespace Lv
open PySem PySem.Spec PyProof.Rows L2
def madeOf (z sg : Str) (m : Int) : Bool := decide (1 ≤ (z.length : Int) ∧ (z.length : Int) ≤ m) && z.cps.toList.all fun c => decide (c ∈ sg.cps.toList)
def lettersS : Str := "abcdefghijklmnopqrstuvwxyz"
def signsS : Str := lettersS ++ ("0123456789" : Str)
def nameOk (z : Str) : Bool := madeOf z signsS 12 && (match z.cps.toList[0]? with | some c => decide (c ∈ lettersS.cps.toList) | none => false)
section
variable {P : Program} {w : World} {K : PySem.W.Frag} {mg : Str → Option Value} {base : Heap}
def sp_is_made_of : Sp := sp3 fun v s m H Q => ∃ (z sg : Str) (n : Int), v = .str z ∧ s = .str sg ∧ m = .int n ∧ z.length ≤ 1000 ∧ ∀ H', Same H H' → Q (.bl (madeOf z sg n)) H'
abbrev N_is_made_of : List Str := ["value", "signs", "most", "sign"]
theorem sc_is_made_of : FnScope N_is_made_of ["value", "signs", "most"] (defScope s_is_made_of) := ⟨rfl, rfl, rfl, by decide +kernel, rfl, by decide +kernel, by decide +kernel⟩
theorem ok_is_made_of (T : Txt K mg) : CallOk P w K mg base 1 "is_made_of" ["value", "signs", "most"] [] sp_is_made_of := by
  refine call_ok T 4 T.g_is_made_of sc_is_made_of (fun vs H Q E h => ?_) (fun f cdv A outer s H vs Q E hr h => ?_) (fun _ _ _ _ _ _ us hl => match us, hl with | [_, _, _], _ => rfl)
  · obtain ⟨x0, x1, x2, rfl, _⟩ := h
    rfl
  · have nd := sc_is_made_of.nd
    have hu := hu_of hr
    have hu64 := hu64_of hr
    obtain ⟨x0, x1, x2, rfl, h⟩ := h
    refine ⟨_, (pss_cons (ps_if (PW.pt (pw_or (pt_not (pt_val (pe_callB (isiK (K := K)) (by rfl) T.b_isinstance boot_isinstance (pa_cons (pv 0) (pa_cons (pe_gty T.b_str boot_str) pa_nil))))) (pw_or1 (pt_not (pt_chain op_le op_le pe_int (pe_callB call_len_str (by rfl) T.b_len boot_len (pa_cons (pv 0) pa_nil)) (pv 2)))))) (pss_one (ps_ret pe_bl)) pss_nil) (pss_one (ps_ret (pe_callB (allK (K := K)) (by rfl) T.b_all boot_all (pa_cons (pe_lc (own := [("sign", 3)]) (g := (gName 3)) (tt := tYes) rfl nd (pi_str (pv 0)) (blkOk_by (own := [("sign", 3)]) (N := N_is_made_of) (sc := defScope s_is_made_of) (by decide +kernel)) (fun _ _ _ _ _ => (pg_name (i := 3) nd rfl (Or.inl rfl))) (fun _ _ _ _ _ => pts_nil) (fun _ _ _ _ _ => (pe_cmpR op_in_sign (pv 3) (pv 1) (by rfl)))) pa_nil))))), ?_⟩
    obtain ⟨z, sg, n, rfl, rfl, rfl, hz, q⟩ := h
    have hz2 : z.length ≤ sizeLine := Nat.le_trans hz (by decide)
    refine ⟨_, rfl, _, _, .type "str", _, _, rfl, .ty _, .base (.str _), kit_ty k_str_str, _, rfl, iteF ?_⟩
    refine ⟨_, rfl, z, rfl, hz2, _, _, rfl, rfl, _, rfl, ?_⟩
    refine iteB (fun h1 => ?_) (fun h1 => ?_)
    · refine ⟨_, rfl, _, _, rfl, rfl, _, rfl, ?_⟩
      refine iteB (fun h2 => ?_) (fun h2 => ?_)
      · have e : madeOf z sg n = false := by
          have h3 : ¬ (z.length : Int) ≤ n := of_decide_eq_false (by simpa using h2)
          simp [madeOf, h3]
        rw [e] at q
        exact q _ (Same.refl _)
      · have h2 : (z.length : Int) ≤ n := of_decide_eq_true (by simpa using h2)
        have h1 : (1 : Int) ≤ z.length := of_decide_eq_true h1
        refine ⟨_, rfl, z, rfl, fun D hD => lc_rel walk_str (RF fun j => .bl (match z.cps[j]? with | some c => decide (c ∈ sg.cps.toList) | none => false)) hD (fun _ _ => True.intro) rfl ?_ ?_⟩
        · rintro i x l H1 H2 hi hl s e r ⟨rfl, c, hc, rfl⟩
          refine ⟨rfl, ?_⟩
          refine ⟨_, rfl, _, rfl, c, sg, rfl, rfl, lc_takeF hD (Nat.lt_of_lt_of_le hi hz2) hl s e r ?_⟩
          rw [hc]
        · intro l H1 hl s e r
          have r : l = _ := r
          refine ⟨D, (List.range z.cps.toList.length).map fun j => (match z.cps[j]? with | some c => decide (c ∈ sg.cps.toList) | none => false), rfl, SqL.of ?_, ?_⟩
          · rw [e, r]
            simp [List.map_map, Function.comp_def]
          · have e2 : ((List.range z.cps.toList.length).map fun j => (match z.cps[j]? with | some c => decide (c ∈ sg.cps.toList) | none => false)).all id = z.cps.toList.all fun c => decide (c ∈ sg.cps.toList) :=
              all_range fun j x hj => by
                have hj : z.cps[j]? = some x := by simpa using hj
                rw [hj]
            rw [e2]
            have e3 : madeOf z sg n = z.cps.toList.all fun c => decide (c ∈ sg.cps.toList) := by simp [madeOf, h1, h2]
            rw [e3] at q
            exact q _ s
    · have e : madeOf z sg n = false := by
        have h3 : ¬ (1 : Int) ≤ z.length := of_decide_eq_false h1
        simp [madeOf, h3]
      rw [e] at q
      exact ⟨_, rfl, iteT (q _ (Same.refl _))⟩
end
end Lv
set_option maxHeartbeats 4000000
namespace Lv
open PySem PySem.Spec PyProof.Rows L2
theorem madeOf_first {z sg : Str} {m : Int} (h : madeOf z sg m = true) : ∃ c, z.cps.toList[0]? = some c := by
  unfold madeOf at h
  rw [Bool.and_eq_true, decide_eq_true_eq] at h
  have h1 : 1 ≤ (z.length : Int) := h.1.1
  have h2 : 0 < z.cps.toList.length := by
    have : z.length = z.cps.toList.length := by simp [Str.length]
    omega
  exact ⟨z.cps.toList[0], List.getElem?_eq_getElem h2⟩
theorem inV_str {z : Str} : ∀ {zs : List Str}, inV (.str z) (zs.map V.str) = decide (z ∈ zs)
  | [] => rfl
  | y :: ys => by
    have ih := inV_str (z := z) (zs := ys)
    unfold inV at ih ⊢
    rw [List.map_cons, List.any_cons, ih]
    show ((y == z) || decide (z ∈ ys)) = decide (z ∈ y :: ys)
    by_cases h : y = z
    · subst h; simp
    · have h2 : ¬ z = y := fun e => h e.symm
      simp [h, h2]
theorem lfSize : (lettersS : Str).length + ("0123456789" : Str).length ≤ sizeLine := by decide +kernel
section
variable {P : Program} {w : World} {K : PySem.W.Frag} {mg : Str → Option Value} {base : Heap}
theorem FnOk_of {k : Nat} {x : Str} {ps : List Str} {dvs : List V} {sp : Sp} {j : Nat} (c : CallOk P w K mg base k x ps dvs sp) (h : k ≤ j) : CallOk P w K mg base j x ps dvs sp := by
  obtain ⟨f, fd, ds, F, r⟩ := c.ex
  exact ⟨f, fd, ds, F.mono h, r⟩
def sp_is_name : Sp := sp1 fun v H Q => ∃ z : Str, v = .str z ∧ z.length ≤ 1000 ∧ ∀ H', Same H H' → Q (.bl (nameOk z)) H'
abbrev N_is_name : List Str := ["value"]
theorem sc_is_name : FnScope N_is_name ["value"] (defScope s_is_name) := ⟨rfl, rfl, rfl, by decide +kernel, rfl, by decide +kernel, by decide +kernel⟩
theorem ok_is_name (T : Txt K mg) : CallOk P w K mg base 2 "is_name" ["value"] [] sp_is_name := by
  refine call_ok T 5 T.g_is_name sc_is_name (fun vs H Q E h => ?_) (fun f cdv A outer s H vs Q E hr h => ?_) (fun _ _ _ _ _ _ us hl => match us, hl with | [_], _ => rfl)
  · obtain ⟨x0, rfl, _⟩ := h
    rfl
  · have nd := sc_is_name.nd
    have hu := hu_of hr
    have hu64 := hu64_of hr
    have c_is_made_of := ok_is_made_of (P := P) (w := w) (base := base) T
    obtain ⟨x0, rfl, h⟩ := h
    refine ⟨_, (pss_one (ps_ret (pe_and (pe_callO c_is_made_of (hr.mono (by first | decide | omega)) (pa_cons (pv 0) (pa_cons (pe_op op_add_str (pe_gstr T.s_LETTERS) (pe_gstr T.s_FIGURES)) (pa_cons (pe_gint T.i_LONGEST_WORD) pa_nil)))) (pe_one (pe_cmpR op_in_sign (pe_ix ix_str (pv 0) pe_int (fun _ _ => rfl)) (pe_gstr T.s_LETTERS) (by rfl)))))), ?_⟩
    obtain ⟨z, rfl, hz, q⟩ := h
    refine ⟨_, rfl, _, _, rfl, rfl, lfSize, _, _, _, rfl, z, signsS, 12, rfl, rfl, rfl, hz, fun H1 s1 => ⟨_, rfl, ?_⟩⟩
    refine iteB (fun h1 => ?_) (fun h1 => ?_)
    · obtain ⟨c, hc⟩ := madeOf_first h1
      refine ⟨_, rfl, z, 0, c, rfl, rfl, Nat.le_trans hz (by decide), atI_nat (j := 0) hc, c, lettersS, rfl, rfl, ?_⟩
      have e : nameOk z = decide (c ∈ lettersS.cps.toList) := by
        unfold nameOk
        rw [h1, hc]
        rfl
      rw [e] at q
      exact q _ s1
    · have e : nameOk z = false := by
        unfold nameOk
        rw [h1]
        rfl
      rw [e] at q
      exact q _ s1
def wordOk (z : Str) : Bool := madeOf z signsS 12 && !decide (z ∈ [("see" : Str), "copy"])
def sp_is_word : Sp := sp1 fun v H Q => ∃ z : Str, v = .str z ∧ z.length ≤ 1000 ∧ ∀ H', Same H H' → Q (.bl (wordOk z)) H'
theorem Txt.quoting (T : Txt K mg) (H : Hp) : SqT K H (He.ga K "QUOTING") [.str "see", .str "copy"] := He.tupB_ok (He.ba (He.ba T.exA).1).1 H
theorem Txt.kinds (T : Txt K mg) (H : Hp) : SqT K H (He.ga K "KINDS") [.str "post", .str "account", .str "name"] := He.tupB_ok (He.ba (He.ba T.exA).1).2 H
theorem Txt.sides (T : Txt K mg) (H : Hp) : SqT K H (He.ga K "SIDES") [.str "for", .str "against", .str "none"] := He.tupB_ok (He.ba T.exA).2 H
abbrev N_is_word : List Str := ["value"]
theorem sc_is_word : FnScope N_is_word ["value"] (defScope s_is_word) := ⟨rfl, rfl, rfl, by decide +kernel, rfl, by decide +kernel, by decide +kernel⟩
theorem ok_is_word (T : Txt K mg) : CallOk P w K mg base 2 "is_word" ["value"] [] sp_is_word := by
  refine call_ok T 6 T.g_is_word sc_is_word (fun vs H Q E h => ?_) (fun f cdv A outer s H vs Q E hr h => ?_) (fun _ _ _ _ _ _ us hl => match us, hl with | [_], _ => rfl)
  · obtain ⟨x0, rfl, _⟩ := h
    rfl
  · have nd := sc_is_word.nd
    have hu := hu_of hr
    have hu64 := hu64_of hr
    have c_is_made_of := ok_is_made_of (P := P) (w := w) (base := base) T
    obtain ⟨x0, rfl, h⟩ := h
    refine ⟨_, (pss_one (ps_ret (pe_and (pe_callO c_is_made_of (hr.mono (by first | decide | omega)) (pa_cons (pv 0) (pa_cons (pe_op op_add_str (pe_gstr T.s_LETTERS) (pe_gstr T.s_FIGURES)) (pa_cons (pe_gint T.i_LONGEST_WORD) pa_nil)))) (pe_one (pe_cmpR (ninSK (K := K)) (pv 0) (pe_gref T.g_QUOTING) (by with_unfolding_all rfl)))))), ?_⟩
    obtain ⟨z, rfl, hz, q⟩ := h
    refine ⟨_, rfl, _, _, rfl, rfl, lfSize, _, _, _, rfl, z, signsS, 12, rfl, rfl, rfl, hz, fun H1 s1 => ⟨_, rfl, ?_⟩⟩
    refine iteB (fun h1 => ?_) (fun h1 => ?_)
    · refine ⟨_, rfl, _, _, rfl, .inr (T.quoting _), rfl, rfl, ?_⟩
      have e : wordOk z = !(inV (.str z) ([("see" : Str), "copy"].map V.str)) := by
        unfold wordOk
        rw [h1, inV_str]
        rfl
      rw [e] at q
      exact q _ s1
    · have e : wordOk z = false := by
        unfold wordOk
        rw [h1]
        rfl
      rw [e] at q
      exact q _ s1
def kindsOf (z : Str) : List Str := if z = ("hide" : Str) then ["post"] else if z = ("mute" : Str) then ["account"] else ["post", "account", "name"]
def sp_kinds_of : Sp := sp1 fun v H Q => ∃ z : Str, v = .str z ∧ ∀ H' a, Same H H' → SqT K H' a ((kindsOf z).map V.str) → Q (.ref a) H'
abbrev N_kinds_of : List Str := ["word"]
theorem sc_kinds_of : FnScope N_kinds_of ["word"] (defScope s_kinds_of) := ⟨rfl, rfl, rfl, by decide +kernel, rfl, by decide +kernel, by decide +kernel⟩
theorem ok_kinds_of (T : Txt K mg) : CallOk P w K mg base 1 "kinds_of" ["word"] [] (sp_kinds_of (K := K)) := by
  refine call_ok T 7 T.g_kinds_of sc_kinds_of (fun vs H Q E h => ?_) (fun f cdv A outer s H vs Q E hr h => ?_) (fun _ _ _ _ _ _ us hl => match us, hl with | [_], _ => rfl)
  · obtain ⟨x0, rfl, _⟩ := h
    rfl
  · have nd := sc_kinds_of.nd
    have hu := hu_of hr
    have hu64 := hu64_of hr
    obtain ⟨x0, rfl, h⟩ := h
    refine ⟨_, (pss_cons (ps_if (pt_cmpR op_eq (pv 0) pe_str (nomark _)) (pss_one (ps_ret (pe_tup (pa_cons pe_str pa_nil)))) pss_nil) (pss_one (ps_ret (pe_ifExp (pt_cmpR op_eq (pv 0) pe_str (nomark _)) (pe_tup (pa_cons pe_str pa_nil)) (pe_gref T.g_KINDS))))), ?_⟩
    obtain ⟨z, rfl, q⟩ := h
    refine ⟨_, rfl, rfl, _, rfl, ?_⟩
    refine iteB (fun h1 => ?_) (fun h1 => ?_)
    · have h1 : z = ("hide" : Str) := by simpa using h1
      subst h1
      exact ⟨(by show 1 ≤ sizeLine; decide), fun a ha => q _ a (same_new ha) (SqT.of upd_same)⟩
    · have h1 : ¬ z = ("hide" : Str) := by simpa using h1
      refine ⟨_, rfl, rfl, _, rfl, ?_⟩
      refine iteB (fun h2 => ?_) (fun h2 => ?_)
      · have h2 : z = ("mute" : Str) := by simpa using h2
        subst h2
        exact ⟨(by show 1 ≤ sizeLine; decide), fun a ha => q _ a (same_new ha) (SqT.of upd_same)⟩
      · have h2 : ¬ z = ("mute" : Str) := by simpa using h2
        refine q _ _ (Same.refl _) ?_
        have e : kindsOf z = (["post", "account", "name"] : List Str) := by
          unfold kindsOf
          rw [if_neg h1, if_neg h2]
        rw [e]
        exact T.kinds _
def sp_is_units : Sp := sp1 fun v H Q => ∃ n : Int, v = .int n ∧ Q (.bl (decide (0 ≤ n ∧ n ≤ 24))) H
abbrev N_is_units : List Str := ["value"]
theorem sc_is_units : FnScope N_is_units ["value"] (defScope s_is_units) := ⟨rfl, rfl, rfl, by decide +kernel, rfl, by decide +kernel, by decide +kernel⟩
theorem ok_is_units (T : Txt K mg) : CallOk P w K mg base 2 "is_units" ["value"] [] sp_is_units := by
  refine call_ok T 30 T.g_is_units sc_is_units (fun vs H Q E h => ?_) (fun f cdv A outer s H vs Q E hr h => ?_) (fun _ _ _ _ _ _ us hl => match us, hl with | [_], _ => rfl)
  · obtain ⟨x0, rfl, _⟩ := h
    rfl
  · have nd := sc_is_units.nd
    have hu := hu_of hr
    have hu64 := hu64_of hr
    have c_is_whole := ok_is_whole (P := P) (w := w) (base := base) T
    obtain ⟨x0, rfl, h⟩ := h
    refine ⟨_, (pss_one (ps_ret (pe_callO c_is_whole (hr.mono (by first | decide | omega)) (pa_cons (pv 0) (pa_cons pe_int (pa_cons (pe_gint T.i_MOST_UNITS_letters) pa_nil)))))), ?_⟩
    obtain ⟨n, rfl, q⟩ := h
    exact ⟨_, rfl, _, _, _, rfl, n, 0, rfl, rfl, .inr ⟨24, rfl, q⟩⟩
def sp_is_truth : Sp := sp1 fun v H Q => ∃ b : Bool, v = .bl b ∧ Q (.bl true) H
abbrev N_is_truth : List Str := ["value"]
theorem sc_is_truth : FnScope N_is_truth ["value"] (defScope s_is_truth) := ⟨rfl, rfl, rfl, by decide +kernel, rfl, by decide +kernel, by decide +kernel⟩
theorem ok_is_truth (T : Txt K mg) : CallOk P w K mg base 1 "is_truth" ["value"] [] sp_is_truth := by
  refine call_ok T 31 T.g_is_truth sc_is_truth (fun vs H Q E h => ?_) (fun f cdv A outer s H vs Q E hr h => ?_) (fun _ _ _ _ _ _ us hl => match us, hl with | [_], _ => rfl)
  · obtain ⟨x0, rfl, _⟩ := h
    rfl
  · have nd := sc_is_truth.nd
    have hu := hu_of hr
    have hu64 := hu64_of hr
    obtain ⟨x0, rfl, h⟩ := h
    refine ⟨_, (pss_one (ps_ret (pe_callB (isiK (K := K)) (by rfl) T.b_isinstance boot_isinstance (pa_cons (pv 0) (pa_cons (pe_gty T.b_bool boot_bool) pa_nil))))), ?_⟩
    obtain ⟨b, rfl, q⟩ := h
    exact ⟨_, rfl, _, _, .type "bool", _, _, rfl, .ty _, .base (.bl _), kit_ty k_bool_bool, q⟩
end
end Lv
set_option maxHeartbeats 4000000
namespace Lv
open PySem PySem.Spec PyProof.Rows L2
inductive Piece where
  | word (w : Str)
  | see (a b : Str)
  deriving DecidableEq
def Piece.dt : Piece → Dt
  | .word w => .tup [.str "word", .str w]
  | .see a b => .tup [.str "see", .str a, .str b]
def Piece.ok : Piece → Bool
  | .word w => wordOk w
  | .see a b => nameOk a && nameOk b
inductive Say where
  | vouch (n : Str) (k : Int)
  | circle (n : Str) (k : Int)
  | back (n : Str) (b : Bool)
  | block (n : Str) (b : Bool)
  | take (n : Str)
  | speak (w s side : Str)
  | post (n t : Str) (body : List Piece)
  deriving DecidableEq
def subjOk (s : Str) : Bool := decide (s.length ≤ 1000 ∧ (PySem.Txt.split s ".").length < 3) && (PySem.Txt.split s ".").all nameOk
def Say.dt : Say → Dt
  | .vouch n k => .tup [.str "vouch", .str n, .int k]
  | .circle n k => .tup [.str "circle", .str n, .int k]
  | .back n b => .tup [.str "back", .str n, .bl b]
  | .block n b => .tup [.str "block", .str n, .bl b]
  | .take n => .tup [.str "take", .str n]
  | .speak w s side => .tup [.str "speak", .str w, .str s, .str side]
  | .post n t body => .tup [.str "post", .str n, .str t, .tup (body.map Piece.dt)]
def Say.ok : Say → Bool
  | .vouch n k => nameOk n && decide (0 ≤ k ∧ k ≤ 24)
  | .circle n k => nameOk n && decide (0 ≤ k ∧ k ≤ 24)
  | .back n _ => nameOk n
  | .block n _ => nameOk n
  | .take n => nameOk n
  | .speak w s side => nameOk w && (subjOk s && decide (side ∈ [("for" : Str), "against", "none"]))
  | .post n t body => nameOk n && (nameOk t && (decide (body.length ≤ 20) && body.all Piece.ok))
theorem madeOf_len {z sg : Str} {m : Int} (h : madeOf z sg m = true) : (z.length : Int) ≤ m := by
  unfold madeOf at h
  rw [Bool.and_eq_true, decide_eq_true_eq] at h
  exact h.1.2
theorem nameOk_len {z : Str} (h : nameOk z = true) : z.length ≤ 12 := by
  unfold nameOk at h
  rw [Bool.and_eq_true] at h
  have := madeOf_len h.1
  omega
theorem wordOk_len {z : Str} (h : wordOk z = true) : z.length ≤ 12 := by
  unfold wordOk at h
  rw [Bool.and_eq_true] at h
  have := madeOf_len h.1
  omega
theorem name1000 {z : Str} (h : nameOk z = true) : z.length ≤ 1000 := Nat.le_trans (nameOk_len h) (by decide)
theorem word1000 {z : Str} (h : wordOk z = true) : z.length ≤ 1000 := Nat.le_trans (wordOk_len h) (by decide)
section
variable {P : Program} {w : World} {K : PySem.W.Frag} {mg : Str → Option Value} {base : Heap}
def sp_is_quoted : Sp := sp1 fun v H Q => ∃ (a : Addr) (x y : Str), v = .ref a ∧ H a = some (.tup [.str x, .str y]) ∧ nameOk x = true ∧ nameOk y = true ∧ ∀ H', Same H H' → Q (.bl true) H'
abbrev N_is_quoted : List Str := ["parts"]
theorem sc_is_quoted : FnScope N_is_quoted ["parts"] (defScope s_is_quoted) := ⟨rfl, rfl, rfl, by decide +kernel, rfl, by decide +kernel, by decide +kernel⟩
theorem ok_is_quoted (T : Txt K mg) : CallOk P w K mg base 3 "is_quoted" ["parts"] [] sp_is_quoted := by
  refine call_ok T 26 T.g_is_quoted sc_is_quoted (fun vs H Q E h => ?_) (fun f cdv A outer s H vs Q E hr h => ?_) (fun _ _ _ _ _ _ us hl => match us, hl with | [_], _ => rfl)
  · obtain ⟨x0, rfl, _⟩ := h
    rfl
  · have nd := sc_is_quoted.nd
    have hu := hu_of hr
    have hu64 := hu64_of hr
    have c_is_name := ok_is_name (P := P) (w := w) (base := base) T
    obtain ⟨x0, rfl, h⟩ := h
    refine ⟨_, (pss_one (ps_ret (pe_and (pe_callO c_is_name (hr.mono (by first | decide | omega)) (pa_cons (pe_ix (ixT (K := K)) (pv 0) pe_int (fun _ _ => rfl)) pa_nil)) (pe_one (pe_callO c_is_name (hr.mono (by first | decide | omega)) (pa_cons (pe_ix (ixT (K := K)) (pv 0) pe_int (fun _ _ => rfl)) pa_nil)))))), ?_⟩
    obtain ⟨a, x, y, rfl, e, hx, hy, q⟩ := h
    refine ⟨_, rfl, _, _, _, _, rfl, rfl, SqT.of e, atI_nat (j := 0) rfl, _, rfl, x, rfl, name1000 hx, fun H1 s1 => ⟨_, rfl, ?_⟩⟩
    rw [hx]
    refine iteT ⟨_, rfl, ?_⟩
    have e1 := s1 _ _ e
    refine ⟨_, _, _, _, rfl, rfl, SqT.of e1, atI_nat (j := 1) rfl, _, rfl, y, rfl, name1000 hy, fun H2 s2 => ?_⟩
    rw [hy]
    exact q _ (s1.trans s2)
def sp_is_piece : Sp := sp1 fun v H Q => ∃ p : Piece, Tv H p.dt v ∧ p.ok = true ∧ ∀ H', Same H H' → Q (.bl true) H'
abbrev N_is_piece : List Str := ["value"]
theorem sc_is_piece : FnScope N_is_piece ["value"] (defScope s_is_piece) := ⟨rfl, rfl, rfl, by decide +kernel, rfl, by decide +kernel, by decide +kernel⟩
theorem ok_is_piece (T : Txt K mg) : CallOk P w K mg base 4 "is_piece" ["value"] [] sp_is_piece := by
  refine call_ok T 27 T.g_is_piece sc_is_piece (fun vs H Q E h => ?_) (fun f cdv A outer s H vs Q E hr h => ?_) (fun _ _ _ _ _ _ us hl => match us, hl with | [_], _ => rfl)
  · obtain ⟨x0, rfl, _⟩ := h
    rfl
  · have nd := sc_is_piece.nd
    have hu := hu_of hr
    have hu64 := hu64_of hr
    have c_is_name := ok_is_name (P := P) (w := w) (base := base) T
    have c_is_word := ok_is_word (P := P) (w := w) (base := base) T
    have c_is_quoted := ok_is_quoted (P := P) (w := w) (base := base) T
    have c_is_whole2 := ok_is_whole2 (P := P) (w := w) (base := base) T
    obtain ⟨x0, rfl, h⟩ := h
    refine ⟨_, (pss_cons (ps_if (PW.pt (pw_or (pt_not (pt_val (pe_callB (isiK (K := K)) (by rfl) T.b_isinstance boot_isinstance (pa_cons (pv 0) (pa_cons (pe_gty T.b_tuple boot_tuple) pa_nil))))) (pw_or (pt_cmpR op_lt (pe_callB (lenSK (K := K)) (by rfl) T.b_len boot_len (pa_cons (pv 0) pa_nil)) pe_int (nomark _)) (pw_or1 (pt_not (pt_val (pe_callB (isiK (K := K)) (by rfl) T.b_isinstance boot_isinstance (pa_cons (pe_ix (ixT (K := K)) (pv 0) pe_int (fun _ _ => rfl)) (pa_cons (pe_gty T.b_str boot_str) pa_nil))))))))) (pss_one (ps_ret pe_bl)) pss_nil) (pss_cons (ps_if (pt_cmpR op_eq (pe_ix (ixT (K := K)) (pv 0) pe_int (fun _ _ => rfl)) pe_str (nomark _)) (pss_one (ps_ret (pe_and (pe_cmpR op_eq (pe_callB (lenSK (K := K)) (by rfl) T.b_len boot_len (pa_cons (pv 0) pa_nil)) pe_int (nomark _)) (pe_one (pe_callO c_is_word (hr.mono (by first | decide | omega)) (pa_cons (pe_ix (ixT (K := K)) (pv 0) pe_int (fun _ _ => rfl)) pa_nil)))))) pss_nil) (pss_cons (ps_if (pt_cmpR op_eq (pe_ix (ixT (K := K)) (pv 0) pe_int (fun _ _ => rfl)) pe_str (nomark _)) (pss_one (ps_ret (pe_and (pe_cmpR op_eq (pe_callB (lenSK (K := K)) (by rfl) T.b_len boot_len (pa_cons (pv 0) pa_nil)) pe_int (nomark _)) (pe_one (pe_callO c_is_quoted (hr.mono (by first | decide | omega)) (pa_cons (pe_slice (slAK (K := K)) (pv 0) (po_some pe_int) po_none) pa_nil)))))) pss_nil) (pss_one (ps_ret (pe_and (pe_cmpR op_eq (pe_ix (ixT (K := K)) (pv 0) pe_int (fun _ _ => rfl)) pe_str (nomark _)) (pe_and (pe_cmpR op_eq (pe_callB (lenSK (K := K)) (by rfl) T.b_len boot_len (pa_cons (pv 0) pa_nil)) pe_int (nomark _)) (pe_and (pe_callO c_is_quoted (hr.mono (by first | decide | omega)) (pa_cons (pe_slice (slAK (K := K)) (pv 0) (po_some pe_int) (po_some pe_int)) pa_nil)) (pe_one (pe_callO c_is_whole2 (hr.mono (by first | decide | omega)) (pa_cons (pe_ix (ixT (K := K)) (pv 0) pe_int (fun _ _ => rfl)) (pa_cons pe_int pa_nil)))))))))))), ?_⟩
    obtain ⟨p, tv, ok, q⟩ := h
    cases p with
    | word z =>
      obtain ⟨a, xs, rfl, e, tv⟩ := tv
      have ex : xs = [.str "word", .str z] := TvAll.strs (zs := ["word", z]).mp tv
      subst ex
      refine ⟨_, rfl, _, _, .type "tuple", _, _, rfl, .ty _, .base (.tup e), kit_ty k_tup_tup, _, rfl, iteF ?_⟩
      refine ⟨_, rfl, _, _, rfl, .inr (SqT.of e), _, _, rfl, rfl, _, rfl, iteF ?_⟩
      refine ⟨_, rfl, _, _, _, _, rfl, rfl, SqT.of e, atI_nat (j := 0) rfl, _, _, .type "str", _, _, rfl, .ty _, .base (.str _), kit_ty k_str_str, _, rfl, iteF ?_⟩
      refine ⟨_, rfl, _, _, _, _, rfl, rfl, SqT.of e, atI_nat (j := 0) rfl, rfl, _, rfl, iteT ?_⟩
      refine ⟨_, rfl, _, _, rfl, .inr (SqT.of e), rfl, _, rfl, iteT ?_⟩
      refine ⟨_, rfl, _, _, _, _, rfl, rfl, SqT.of e, atI_nat (j := 1) rfl, _, rfl, z, rfl, word1000 ok, fun H1 s1 => ?_⟩
      have ok : wordOk z = true := ok
      rw [ok]
      exact q _ s1
    | see x y =>
      obtain ⟨a, xs, rfl, e, tv⟩ := tv
      have ex : xs = [.str "see", .str x, .str y] := TvAll.strs (zs := ["see", x, y]).mp tv
      subst ex
      have ok : (nameOk x && nameOk y) = true := ok
      rw [Bool.and_eq_true] at ok
      refine ⟨_, rfl, _, _, .type "tuple", _, _, rfl, .ty _, .base (.tup e), kit_ty k_tup_tup, _, rfl, iteF ?_⟩
      refine ⟨_, rfl, _, _, rfl, .inr (SqT.of e), _, _, rfl, rfl, _, rfl, iteF ?_⟩
      refine ⟨_, rfl, _, _, _, _, rfl, rfl, SqT.of e, atI_nat (j := 0) rfl, _, _, .type "str", _, _, rfl, .ty _, .base (.str _), kit_ty k_str_str, _, rfl, iteF ?_⟩
      refine ⟨_, rfl, _, _, _, _, rfl, rfl, SqT.of e, atI_nat (j := 0) rfl, rfl, _, rfl, iteF ?_⟩
      refine ⟨_, rfl, _, _, _, _, rfl, rfl, SqT.of e, atI_nat (j := 0) rfl, rfl, _, rfl, iteT ?_⟩
      refine ⟨_, rfl, _, _, rfl, .inr (SqT.of e), rfl, _, rfl, iteT ?_⟩
      refine ⟨_, rfl, _, rfl, _, _, rfl, SqT.of e, ?_⟩
      refine ⟨fun z => absurd z (by show ¬ ((1 : Nat) = 0 ∧ (3 : Nat) = 3); decide), fun _ b hb => ?_⟩
      refine ⟨_, rfl, _, _, _, rfl, upd_same, ok.1, ok.2, fun H1 s1 => q _ (same_to (Same.refl _) hb |>.trans s1)⟩
theorem TvAll.pieces {H : Hp} : ∀ {ps : List Piece} {vs : List V} {i : Nat} {v : V}, TvAll H (ps.map Piece.dt) vs → vs[i]? = some v → ∃ p, ps[i]? = some p ∧ Tv H p.dt v := fun {ps vs i v} h e => by
  obtain ⟨d, h1, h2⟩ := h.get e
  rw [List.getElem?_map] at h1
  cases q : ps[i]? with
  | none =>
    rw [q] at h1
    cases h1
  | some p =>
    rw [q] at h1
    cases h1
    exact ⟨p, rfl, h2⟩
def sp_is_body : Sp := sp1 fun v H Q => ∃ ps : List Piece, Tv H (.tup (ps.map Piece.dt)) v ∧ ps.length ≤ 20 ∧ (∀ p ∈ ps, p.ok = true) ∧ ∀ H', Same H H' → Q (.bl true) H'
abbrev N_is_body : List Str := ["value", "piece"]
theorem sc_is_body : FnScope N_is_body ["value"] (defScope s_is_body) := ⟨rfl, rfl, rfl, by decide +kernel, rfl, by decide +kernel, by decide +kernel⟩
theorem ok_is_body (T : Txt K mg) : CallOk P w K mg base 5 "is_body" ["value"] [] sp_is_body := by
  refine call_ok T 28 T.g_is_body sc_is_body (fun vs H Q E h => ?_) (fun f cdv A outer s H vs Q E hr h => ?_) (fun _ _ _ _ _ _ us hl => match us, hl with | [_], _ => rfl)
  · obtain ⟨x0, rfl, _⟩ := h
    rfl
  · have nd := sc_is_body.nd
    have hu := hu_of hr
    have hu64 := hu64_of hr
    have c_is_piece := ok_is_piece (P := P) (w := w) (base := base) T
    obtain ⟨x0, rfl, h⟩ := h
    refine ⟨_, (pss_one (ps_ret (pe_and (pe_callB (isiK (K := K)) (by rfl) T.b_isinstance boot_isinstance (pa_cons (pv 0) (pa_cons (pe_gty T.b_tuple boot_tuple) pa_nil))) (pe_and (pe_cmpR op_le (pe_callB (lenSK (K := K)) (by rfl) T.b_len boot_len (pa_cons (pv 0) pa_nil)) (pe_gint T.i_MOST_PIECES) (nomark _)) (pe_one (pe_callB (allK (K := K)) (by rfl) T.b_all boot_all (pa_cons (pe_lc (own := [("piece", 1)]) (g := (gName 1)) (tt := tYes) rfl nd (pi_tup (pv 0)) (blkOk_by (own := [("piece", 1)]) (N := N_is_body) (sc := defScope s_is_body) (by decide +kernel)) (fun _ _ _ _ _ => (pg_name (i := 1) nd rfl (Or.inl rfl))) (fun _ _ _ _ _ => pts_nil) (fun _ _ _ _ _ => (pe_callO c_is_piece (hr.mono (by first | decide | omega)) (pa_cons (pv 1) pa_nil)))) pa_nil))))))), ?_⟩
    obtain ⟨ps, tv, hl, ok, q⟩ := h
    obtain ⟨a, xs, rfl, e, tv⟩ := tv
    have hx : xs.length = ps.length := by
      have := tv.length
      simpa using this.symm
    refine ⟨_, rfl, _, _, .type "tuple", _, _, rfl, .ty _, .base (.tup e), kit_ty k_tup_tup, _, rfl, iteT ?_⟩
    refine ⟨_, rfl, _, _, rfl, .inr (SqT.of e), _, _, rfl, rfl, _, rfl, ?_⟩
    rw [decide_eq_true (show ((xs.length : Nat) : Int) ≤ 20 by omega)]
    refine iteT ⟨_, rfl, a, rfl, ⟨xs, SqT.of e⟩, fun D hD => lc_rel walk_tup (RF fun _ => .bl true) hD (fun H1 s => SqT.of (s _ _ e)) rfl ?_ ?_⟩
    · rintro i x l H1 H2 hi hl2 s e2 r ⟨rfl, hx2⟩
      refine ⟨rfl, ?_⟩
      obtain ⟨p, hp, tp⟩ := TvAll.pieces (tv.keep (tk_same s)) hx2
      exact ⟨_, rfl, _, rfl, p, tp, ok p (List.mem_of_getElem? hp), fun H3 s3 => lc_takeF hD (Nat.lt_of_lt_of_le (show i < 20 by omega) (by decide)) hl2 (s.trans s3) (s3 _ _ e2) r rfl⟩
    · intro l H1 hl2 s e2 r
      have r : l = _ := r
      refine ⟨D, (List.range xs.length).map fun _ => true, rfl, SqL.of ?_, ?_⟩
      · rw [e2, r]
        simp [List.map_map, Function.comp_def]
      · have e3 : ((List.range xs.length).map fun _ => true).all id = true := by simp
        rw [e3]
        exact q _ s
end
end Lv
set_option maxHeartbeats 4000000
namespace Lv
open PySem PySem.Spec PyProof.Rows L2
theorem band {a b : Bool} (h : (a && b) = true) : a = true ∧ b = true := Bool.and_eq_true_iff.mp h
section
variable {P : Program} {w : World} {K : PySem.W.Frag} {mg : Str → Option Value} {base : Heap}
def sp_is_subject_text : Sp := sp1 fun v H Q => ∃ z : Str, v = .str z ∧ subjOk z = true ∧ ∀ H', Same H H' → Q (.bl true) H'
abbrev N_is_subject_text : List Str := ["value", "parts", "part"]
theorem sc_is_subject_text : FnScope N_is_subject_text ["value"] (defScope s_is_subject_text) := ⟨rfl, rfl, rfl, by decide +kernel, rfl, by decide +kernel, by decide +kernel⟩
theorem ok_is_subject_text (T : Txt K mg) : CallOk P w K mg base 3 "is_subject_text" ["value"] [] sp_is_subject_text := by
  refine call_ok T 29 T.g_is_subject_text sc_is_subject_text (fun vs H Q E h => ?_) (fun f cdv A outer s H vs Q E hr h => ?_) (fun _ _ _ _ _ _ us hl => match us, hl with | [_], _ => rfl)
  · obtain ⟨x0, rfl, _⟩ := h
    rfl
  · have nd := sc_is_subject_text.nd
    have hu := hu_of hr
    have hu64 := hu64_of hr
    have c_is_name := ok_is_name (P := P) (w := w) (base := base) T
    obtain ⟨x0, rfl, h⟩ := h
    refine ⟨_, (pss_cons (ps_if (pt_not (pt_val (pe_callB (isiK (K := K)) (by rfl) T.b_isinstance boot_isinstance (pa_cons (pv 0) (pa_cons (pe_gty T.b_str boot_str) pa_nil))))) (pss_one (ps_ret pe_bl)) pss_nil) (pss_cons (ps_set (i := 1) nd rfl (Or.inl rfl) (pe_split (pv 0) pe_str)) (pss_one (ps_ret (pe_and (pe_cmpR op_lt (pe_callB (lenSK (K := K)) (by rfl) T.b_len boot_len (pa_cons (pv 1) pa_nil)) pe_int (nomark _)) (pe_one (pe_callB (allK (K := K)) (by rfl) T.b_all boot_all (pa_cons (pe_lc (own := [("part", 2)]) (g := (gName 2)) (tt := tYes) rfl nd (pi_list (pv 1)) (blkOk_by (own := [("part", 2)]) (N := N_is_subject_text) (sc := defScope s_is_subject_text) (by decide +kernel)) (fun _ _ _ _ _ => (pg_name (i := 2) nd rfl (Or.inl rfl))) (fun _ _ _ _ _ => pts_nil) (fun _ _ _ _ _ => (pe_callO c_is_name (hr.mono (by first | decide | omega)) (pa_cons (pv 2) pa_nil)))) pa_nil)))))))), ?_⟩
    obtain ⟨z, rfl, ok, q⟩ := h
    obtain ⟨h1, h2⟩ := band ok
    obtain ⟨hz, h3⟩ := of_decide_eq_true h1
    refine ⟨_, rfl, _, _, .type "str", _, _, rfl, .ty _, .base (.str _), kit_ty k_str_str, _, rfl, iteF ?_⟩
    refine ⟨_, rfl, ⟨_, rfl⟩, _, _, rfl, rfl, (by decide), (by have : sizeLine = 16777216 := sizeLine_eq; omega), fun p hp => ?_⟩
    refine ⟨_, rfl, _, _, rfl, .inl (SqL.of upd_same), _, _, rfl, rfl, ?_⟩
    have e3 : decide ((((PySem.Txt.split z ".").map V.str).length : Int) < 3) = true := decide_eq_true (by rw [List.length_map]; omega)
    refine ⟨_, rfl, ?_⟩
    rw [e3]
    refine iteT ⟨_, rfl, p, rfl, ⟨_, SqL.of upd_same⟩, fun D hD => lc_rel walk_list (RF fun _ => .bl true) hD (fun H1 s => SqL.of (s _ _ upd_same)) rfl ?_ ?_⟩
    · rintro i x l H1 H2 hi hl2 s e2 r ⟨rfl, hx2⟩
      refine ⟨rfl, ?_⟩
      rw [List.getElem?_map] at hx2
      cases hy : (PySem.Txt.split z ".")[i]? with
      | none =>
        rw [hy] at hx2
        cases hx2
      | some y =>
        rw [hy] at hx2
        cases hx2
        have oky : nameOk y = true := List.all_eq_true.mp h2 y (List.mem_of_getElem? hy)
        rw [List.length_map] at hi
        refine ⟨_, rfl, _, rfl, y, rfl, name1000 oky, fun H3 s3 => lc_takeF hD (Nat.lt_of_lt_of_le (show i < 20 by omega) (by decide)) hl2 (s.trans s3) (s3 _ _ e2) r ?_⟩
        rw [oky]
    · intro l H1 hl2 s e2 r
      have r : l = _ := r
      refine ⟨D, (List.range ((PySem.Txt.split z ".").map V.str).length).map fun _ => true, rfl, SqL.of ?_, ?_⟩
      · rw [e2, r]
        simp [List.map_map, Function.comp_def]
      · have e3 : ((List.range ((PySem.Txt.split z ".").map V.str).length).map fun _ => true).all id = true := by simp
        rw [e3]
        exact q _ ((same_new hp).trans s)
def sp_is_speech : Sp := sp1 fun v H Q => ∃ (a : Addr) (z s side : Str), v = .ref a ∧ H a = some (.tup [.str z, .str s, .str side]) ∧ nameOk z = true ∧ subjOk s = true ∧ side ∈ [("for" : Str), "against", "none"] ∧ ∀ H', Same H H' → Q (.bl true) H'
abbrev N_is_speech : List Str := ["parts", "word", "subject", "side"]
theorem sc_is_speech : FnScope N_is_speech ["parts"] (defScope s_is_speech) := ⟨rfl, rfl, rfl, by decide +kernel, rfl, by decide +kernel, by decide +kernel⟩
theorem ok_is_speech (T : Txt K mg) : CallOk P w K mg base 4 "is_speech" ["parts"] [] sp_is_speech := by
  refine call_ok T 32 T.g_is_speech sc_is_speech (fun vs H Q E h => ?_) (fun f cdv A outer s H vs Q E hr h => ?_) (fun _ _ _ _ _ _ us hl => match us, hl with | [_], _ => rfl)
  · obtain ⟨x0, rfl, _⟩ := h
    rfl
  · have nd := sc_is_speech.nd
    have hu := hu_of hr
    have hu64 := hu64_of hr
    have c_is_name := ok_is_name (P := P) (w := w) (base := base) T
    have c_is_subject_text := ok_is_subject_text (P := P) (w := w) (base := base) T
    obtain ⟨x0, rfl, h⟩ := h
    refine ⟨_, (pss_cons (ps_asg (pv 0) (pg_tup rfl (pgs_cons (pg_name (i := 1) nd rfl (Or.inl rfl)) (pgs_cons (pg_name (i := 2) nd rfl (Or.inl rfl)) (pgs_cons (pg_name (i := 3) nd rfl (Or.inl rfl)) pgs_nil))))) (pss_one (ps_ret (pe_and (pe_callO c_is_name (hr.mono (by first | decide | omega)) (pa_cons (pv 1) pa_nil)) (pe_and (pe_callO c_is_subject_text (hr.mono (by first | decide | omega)) (pa_cons (pv 2) pa_nil)) (pe_and (pe_callB (isiK (K := K)) (by rfl) T.b_isinstance boot_isinstance (pa_cons (pv 3) (pa_cons (pe_gty T.b_str boot_str) pa_nil))) (pe_one (pe_cmpR (inSK (K := K)) (pv 3) (pe_gref T.g_SIDES) (by with_unfolding_all rfl))))))))), ?_⟩
    obtain ⟨a, z, s, side, rfl, e, h1, h2, h3, q⟩ := h
    refine ⟨_, rfl, a, _, rfl, SqT.of e, rfl, _, _, rfl, _, _, rfl, _, _, rfl, rfl, ?_⟩
    refine ⟨_, rfl, _, rfl, z, rfl, name1000 h1, fun H1 s1 => ⟨_, rfl, ?_⟩⟩
    rw [h1]
    refine iteT ⟨_, rfl, _, rfl, s, rfl, h2, fun H2 s2 => ⟨_, rfl, iteT ?_⟩⟩
    refine ⟨_, rfl, _, _, .type "str", _, _, rfl, .ty _, .base (.str _), kit_ty k_str_str, _, rfl, iteT ?_⟩
    refine ⟨_, rfl, _, _, rfl, .inr (T.sides _), rfl, rfl, ?_⟩
    have e4 : inV (.str side) ([("for" : Str), "against", "none"].map V.str) = true := by
      rw [inV_str]
      exact decide_eq_true h3
    have e5 : inV (.str side) [V.str "for", V.str "against", V.str "none"] = true := e4
    rw [if_neg (by decide), e5]
    exact q _ (s1.trans s2)
def sp_is_post_saying : Sp := sp1 fun v H Q => ∃ (a : Addr) (n t : Str) (bv : V) (ps : List Piece), v = .ref a ∧ H a = some (.tup [.str n, .str t, bv]) ∧ Tv H (.tup (ps.map Piece.dt)) bv ∧ nameOk n = true ∧ nameOk t = true ∧ ps.length ≤ 20 ∧ (∀ p ∈ ps, p.ok = true) ∧ ∀ H', Same H H' → Q (.bl true) H'
abbrev N_is_post_saying : List Str := ["parts", "name", "thread", "body"]
theorem sc_is_post_saying : FnScope N_is_post_saying ["parts"] (defScope s_is_post_saying) := ⟨rfl, rfl, rfl, by decide +kernel, rfl, by decide +kernel, by decide +kernel⟩
theorem ok_is_post_saying (T : Txt K mg) : CallOk P w K mg base 6 "is_post_saying" ["parts"] [] sp_is_post_saying := by
  refine call_ok T 33 T.g_is_post_saying sc_is_post_saying (fun vs H Q E h => ?_) (fun f cdv A outer s H vs Q E hr h => ?_) (fun _ _ _ _ _ _ us hl => match us, hl with | [_], _ => rfl)
  · obtain ⟨x0, rfl, _⟩ := h
    rfl
  · have nd := sc_is_post_saying.nd
    have hu := hu_of hr
    have hu64 := hu64_of hr
    have c_is_name := ok_is_name (P := P) (w := w) (base := base) T
    have c_is_body := ok_is_body (P := P) (w := w) (base := base) T
    obtain ⟨x0, rfl, h⟩ := h
    refine ⟨_, (pss_cons (ps_asg (pv 0) (pg_tup rfl (pgs_cons (pg_name (i := 1) nd rfl (Or.inl rfl)) (pgs_cons (pg_name (i := 2) nd rfl (Or.inl rfl)) (pgs_cons (pg_name (i := 3) nd rfl (Or.inl rfl)) pgs_nil))))) (pss_one (ps_ret (pe_and (pe_callO c_is_name (hr.mono (by first | decide | omega)) (pa_cons (pv 1) pa_nil)) (pe_and (pe_callO c_is_name (hr.mono (by first | decide | omega)) (pa_cons (pv 2) pa_nil)) (pe_one (pe_callO c_is_body (hr.mono (by first | decide | omega)) (pa_cons (pv 3) pa_nil)))))))), ?_⟩
    obtain ⟨a, n, t, bv, ps, rfl, e, tb, h1, h2, h3, h4, q⟩ := h
    refine ⟨_, rfl, a, _, rfl, SqT.of e, rfl, _, _, rfl, _, _, rfl, _, _, rfl, rfl, ?_⟩
    refine ⟨_, rfl, _, rfl, n, rfl, name1000 h1, fun H1 s1 => ⟨_, rfl, ?_⟩⟩
    rw [h1]
    refine iteT ⟨_, rfl, _, rfl, t, rfl, name1000 h2, fun H2 s2 => ⟨_, rfl, ?_⟩⟩
    rw [h2]
    exact iteT ⟨_, rfl, _, rfl, ps, (tb.keep (tk_same (s1.trans s2))), h3, h4, fun H3 s3 => q _ ((s1.trans s2).trans s3)⟩
end
end Lv
set_option maxHeartbeats 4000000
namespace Lv
open PySem PySem.Spec PyProof.Rows L2
def Say.tag : Say → Str
  | .vouch .. => "vouch" | .circle .. => "circle" | .back .. => "back" | .block .. => "block" | .take .. => "take" | .speak .. => "speak" | .post .. => "post"
def Say.rest : Say → List Dt
  | .vouch n k => [.str n, .int k]
  | .circle n k => [.str n, .int k]
  | .back n b => [.str n, .bl b]
  | .block n b => [.str n, .bl b]
  | .take n => [.str n]
  | .speak w s side => [.str w, .str s, .str side]
  | .post n t body => [.str n, .str t, .tup (body.map Piece.dt)]
theorem Say.dt_eq (s : Say) : s.dt = .tup (.str s.tag :: s.rest) := by cases s <;> rfl
theorem Say.rest_len (s : Say) : 1 ≤ s.rest.length ∧ s.rest.length ≤ 3 := by cases s <;> simp [Say.rest]
theorem Say.at_ {H : Hp} {s : Say} {v : V} (h : Tv H s.dt v) : ∃ a ys, v = .ref a ∧ H a = some (.tup (.str s.tag :: ys)) ∧ TvAll H s.rest ys := by
  rw [s.dt_eq] at h
  obtain ⟨a, xs, rfl, e, t⟩ := h
  match xs, t with
  | x :: ys, t =>
    obtain ⟨rfl, t2⟩ := t
    exact ⟨a, ys, rfl, e, t2⟩
theorem cut1 {v : V} {ys : List V} : cutV (v :: ys) (some 1) none = ys := by
  unfold cutV HT.sIx
  simp
theorem sl1 {v : V} {ys : List V} : ¬ (HT.sIx (v :: ys).length 0 (some 1) = 0 ∧ HT.sIx (v :: ys).length (v :: ys).length none = (v :: ys).length) := by
  unfold HT.sIx
  simp
section
variable {P : Program} {w : World} {K : PySem.W.Frag} {mg : Str → Option Value} {base : Heap}
def sp_is_saying : Sp := sp1 fun v H Q => ∃ s : Say, Tv H s.dt v ∧ s.ok = true ∧ ∀ H', Same H H' → Q (.bl true) H'
abbrev N_is_saying : List Str := ["value", "word", "parts"]
theorem sc_is_saying : FnScope N_is_saying ["value"] (defScope s_is_saying) := ⟨rfl, rfl, rfl, by decide +kernel, rfl, by decide +kernel, by decide +kernel⟩
theorem ok_is_saying (T : Txt K mg) : CallOk P w K mg base 7 "is_saying" ["value"] [] sp_is_saying := by
  refine call_ok T 34 T.g_is_saying sc_is_saying (fun vs H Q E h => ?_) (fun f cdv A outer s H vs Q E hr h => ?_) (fun _ _ _ _ _ _ us hl => match us, hl with | [_], _ => rfl)
  · obtain ⟨x0, rfl, _⟩ := h
    rfl
  · have nd := sc_is_saying.nd
    have hu := hu_of hr
    have hu64 := hu64_of hr
    have c_is_listed := ok_is_listed (P := P) (w := w) (base := base) T
    have c_is_name := ok_is_name (P := P) (w := w) (base := base) T
    have c_is_units := ok_is_units (P := P) (w := w) (base := base) T
    have c_is_truth := ok_is_truth (P := P) (w := w) (base := base) T
    have c_is_speech := ok_is_speech (P := P) (w := w) (base := base) T
    have c_is_post_saying := ok_is_post_saying (P := P) (w := w) (base := base) T
    obtain ⟨x0, rfl, h⟩ := h
    refine ⟨_, (pss_cons (ps_if (PW.pt (pw_or (pt_not (pt_val (pe_callO c_is_listed (hr.mono (by first | decide | omega)) (pa_cons (pv 0) pa_nil)))) (pw_or (pt_cmpR op_lt (pe_callB (lenSK (K := K)) (by rfl) T.b_len boot_len (pa_cons (pv 0) pa_nil)) pe_int (nomark _)) (pw_or1 (pt_not (pt_val (pe_callB (isiK (K := K)) (by rfl) T.b_isinstance boot_isinstance (pa_cons (pe_ix (ixT (K := K)) (pv 0) pe_int (fun _ _ => rfl)) (pa_cons (pe_gty T.b_str boot_str) pa_nil))))))))) (pss_one (ps_ret pe_bl)) pss_nil) (pss_cons (ps_par (i := 1) (j := 2) rfl nd rfl rfl (by decide) rfl rfl (pa_cons (pe_ix (ixT (K := K)) (pv 0) pe_int (fun _ _ => rfl)) (pa_cons (pe_slice (slAK (K := K)) (pv 0) (po_some pe_int) po_none) pa_nil)) (by rfl)) (pss_cons (ps_if (pt_cmpR op_eq (pv 1) pe_str (nomark _)) (pss_one (ps_ret (pe_and (pe_cmpR op_eq (pe_callB (lenSK (K := K)) (by rfl) T.b_len boot_len (pa_cons (pv 2) pa_nil)) pe_int (nomark _)) (pe_one (pe_callO c_is_name (hr.mono (by first | decide | omega)) (pa_cons (pe_ix (ixT (K := K)) (pv 2) pe_int (fun _ _ => rfl)) pa_nil)))))) pss_nil) (pss_cons (ps_if (pt_cmpR (inSK (K := K)) (pv 1) (pe_tup (pa_cons pe_str (pa_cons pe_str pa_nil))) (by with_unfolding_all rfl)) (pss_one (ps_ret (pe_and (pe_cmpR op_eq (pe_callB (lenSK (K := K)) (by rfl) T.b_len boot_len (pa_cons (pv 2) pa_nil)) pe_int (nomark _)) (pe_and (pe_callO c_is_name (hr.mono (by first | decide | omega)) (pa_cons (pe_ix (ixT (K := K)) (pv 2) pe_int (fun _ _ => rfl)) pa_nil)) (pe_one (pe_callO c_is_units (hr.mono (by first | decide | omega)) (pa_cons (pe_ix (ixT (K := K)) (pv 2) pe_int (fun _ _ => rfl)) pa_nil))))))) pss_nil) (pss_cons (ps_if (pt_cmpR (inSK (K := K)) (pv 1) (pe_tup (pa_cons pe_str (pa_cons pe_str pa_nil))) (by with_unfolding_all rfl)) (pss_one (ps_ret (pe_and (pe_cmpR op_eq (pe_callB (lenSK (K := K)) (by rfl) T.b_len boot_len (pa_cons (pv 2) pa_nil)) pe_int (nomark _)) (pe_and (pe_callO c_is_name (hr.mono (by first | decide | omega)) (pa_cons (pe_ix (ixT (K := K)) (pv 2) pe_int (fun _ _ => rfl)) pa_nil)) (pe_one (pe_callO c_is_truth (hr.mono (by first | decide | omega)) (pa_cons (pe_ix (ixT (K := K)) (pv 2) pe_int (fun _ _ => rfl)) pa_nil))))))) pss_nil) (pss_cons (ps_if (pt_cmpR op_eq (pv 1) pe_str (nomark _)) (pss_one (ps_ret (pe_and (pe_cmpR op_eq (pe_callB (lenSK (K := K)) (by rfl) T.b_len boot_len (pa_cons (pv 2) pa_nil)) pe_int (nomark _)) (pe_one (pe_callO c_is_speech (hr.mono (by first | decide | omega)) (pa_cons (pv 2) pa_nil)))))) pss_nil) (pss_one (ps_ret (pe_and (pe_cmpR op_eq (pv 1) pe_str (nomark _)) (pe_and (pe_cmpR op_eq (pe_callB (lenSK (K := K)) (by rfl) T.b_len boot_len (pa_cons (pv 2) pa_nil)) pe_int (nomark _)) (pe_one (pe_callO c_is_post_saying (hr.mono (by first | decide | omega)) (pa_cons (pv 2) pa_nil))))))))))))), ?_⟩
    obtain ⟨s, tv, ok, q⟩ := h
    obtain ⟨a, ys, rfl, e, tr⟩ := Say.at_ tv
    have hl : s.rest.length = ys.length := tr.length
    have hr2 := s.rest_len
    refine ⟨_, rfl, _, rfl, a, rfl, .inl ⟨_, e⟩, fun H1 s1 => ⟨_, rfl, iteF ?_⟩⟩
    have e1 := s1 _ _ e
    refine ⟨_, rfl, _, _, rfl, .inr (SqT.of e1), _, _, rfl, rfl, _, rfl, ?_⟩
    have e3 : decide (((V.str s.tag :: ys).length : Int) < 2) = false := decide_eq_false (by simp only [List.length_cons]; omega)
    rw [e3]
    refine iteF ⟨_, rfl, _, _, _, _, rfl, rfl, SqT.of e1, atI_nat (j := 0) rfl, _, _, .type "str", _, _, rfl, .ty _, .base (.str _), kit_ty k_str_str, _, rfl, iteF ?_⟩
    refine ⟨_, rfl, _, _, _, _, rfl, rfl, SqT.of e1, atI_nat (j := 0) rfl, _, rfl, _, rfl, _, _, rfl, SqT.of e1, fun z => absurd z sl1, fun _ p hp => ⟨_, _, rfl, ?_⟩⟩
    rw [cut1]
    have tr2 : TvAll (upd H1 p (.tup ys)) s.rest ys := (tr.keep (tk_same s1)).keep (tk_new hp)
    have s2 : Same H (upd H1 p (.tup ys)) := same_to s1 hp
    have ep : (upd H1 p (.tup ys)) p = some (.tup ys) := upd_same
    generalize hH : upd H1 p (.tup ys) = H2 at tr2 s2 ep
    clear hH
    cases s with
    | take n =>
      have ok : nameOk n = true := ok
      obtain rfl : ys = [.str n] := TvAll.strs (zs := [n]).mp tr2
      refine ⟨_, rfl, rfl, _, rfl, iteT ?_⟩
      refine ⟨_, rfl, _, _, rfl, .inr (SqT.of ep), rfl, _, rfl, iteT ?_⟩
      refine ⟨_, rfl, _, _, _, _, rfl, rfl, SqT.of ep, atI_nat (j := 0) rfl, _, rfl, n, rfl, name1000 ok, fun H3 s3 => ?_⟩
      rw [ok]
      exact q _ (s2.trans s3)
    | vouch n k =>
      obtain ⟨okn, okk⟩ := band ok
      obtain ⟨x, y, rfl, hx, hy⟩ : ∃ x y, ys = [x, y] ∧ Tv H2 (.str n) x ∧ Tv H2 (.int k) y := by
        match ys, tr2 with
        | [x, y], t => exact ⟨x, y, rfl, t.1, t.2.1⟩
      have hx : x = .str n := hx
      have hy : y = .int k := hy
      subst hx hy
      refine ⟨_, rfl, rfl, _, rfl, iteF ?_⟩
      refine ⟨_, rfl, (by show 2 ≤ sizeLine; decide), fun t ht => ⟨t, _, rfl, .inr (SqT.of upd_same), rfl, rfl, _, rfl, ?_⟩⟩
      have s3 := same_new (o := .tup [.str "vouch", .str "circle"]) ht
      have ep3 := s3 _ _ ep
      refine iteT ?_
      refine ⟨_, rfl, _, _, rfl, .inr (SqT.of ep3), rfl, _, rfl, iteT ?_⟩
      refine ⟨_, rfl, _, _, _, _, rfl, rfl, SqT.of ep3, atI_nat (j := 0) rfl, _, rfl, n, rfl, name1000 okn, fun H4 s4 => ⟨_, rfl, ?_⟩⟩
      rw [okn]
      have ep4 := s4 _ _ ep3
      refine iteT ⟨_, rfl, _, _, _, _, rfl, rfl, SqT.of ep4, atI_nat (j := 1) rfl, _, rfl, k, rfl, ?_⟩
      have okk : decide (0 ≤ k ∧ k ≤ 24) = true := okk
      rw [okk]
      exact q _ ((s2.trans s3).trans s4)
    | circle n k =>
      obtain ⟨okn, okk⟩ := band ok
      obtain ⟨x, y, rfl, hx, hy⟩ : ∃ x y, ys = [x, y] ∧ Tv H2 (.str n) x ∧ Tv H2 (.int k) y := by
        match ys, tr2 with
        | [x, y], t => exact ⟨x, y, rfl, t.1, t.2.1⟩
      have hx : x = .str n := hx
      have hy : y = .int k := hy
      subst hx hy
      refine ⟨_, rfl, rfl, _, rfl, iteF ?_⟩
      refine ⟨_, rfl, (by show 2 ≤ sizeLine; decide), fun t ht => ⟨t, _, rfl, .inr (SqT.of upd_same), rfl, rfl, _, rfl, ?_⟩⟩
      have s3 := same_new (o := .tup [.str "vouch", .str "circle"]) ht
      have ep3 := s3 _ _ ep
      refine iteT ?_
      refine ⟨_, rfl, _, _, rfl, .inr (SqT.of ep3), rfl, _, rfl, iteT ?_⟩
      refine ⟨_, rfl, _, _, _, _, rfl, rfl, SqT.of ep3, atI_nat (j := 0) rfl, _, rfl, n, rfl, name1000 okn, fun H4 s4 => ⟨_, rfl, ?_⟩⟩
      rw [okn]
      have ep4 := s4 _ _ ep3
      refine iteT ⟨_, rfl, _, _, _, _, rfl, rfl, SqT.of ep4, atI_nat (j := 1) rfl, _, rfl, k, rfl, ?_⟩
      have okk : decide (0 ≤ k ∧ k ≤ 24) = true := okk
      rw [okk]
      exact q _ ((s2.trans s3).trans s4)
    | back n k =>
      have okn : nameOk n = true := ok
      obtain ⟨x, y, rfl, hx, hy⟩ : ∃ x y, ys = [x, y] ∧ Tv H2 (.str n) x ∧ Tv H2 (.bl k) y := by
        match ys, tr2 with
        | [x, y], t => exact ⟨x, y, rfl, t.1, t.2.1⟩
      have hx : x = .str n := hx
      have hy : y = .bl k := hy
      subst hx hy
      refine ⟨_, rfl, rfl, _, rfl, iteF ?_⟩
      refine ⟨_, rfl, (by show 2 ≤ sizeLine; decide), fun t ht => ⟨t, _, rfl, .inr (SqT.of upd_same), rfl, rfl, _, rfl, ?_⟩⟩
      have s3 := same_new (o := .tup [.str "vouch", .str "circle"]) ht
      have ep3 := s3 _ _ ep
      refine iteF ?_
      refine ⟨_, rfl, (by show 2 ≤ sizeLine; decide), fun t2 ht2 => ⟨t2, _, rfl, .inr (SqT.of upd_same), rfl, rfl, _, rfl, iteT ?_⟩⟩
      have s5 := same_new (o := .tup [.str "back", .str "block"]) ht2
      have ep5 := s5 _ _ ep3
      refine ⟨_, rfl, _, _, rfl, .inr (SqT.of ep5), rfl, _, rfl, iteT ?_⟩
      refine ⟨_, rfl, _, _, _, _, rfl, rfl, SqT.of ep5, atI_nat (j := 0) rfl, _, rfl, n, rfl, name1000 okn, fun H4 s4 => ⟨_, rfl, ?_⟩⟩
      rw [okn]
      have ep4 := s4 _ _ ep5
      exact iteT ⟨_, rfl, _, _, _, _, rfl, rfl, SqT.of ep4, atI_nat (j := 1) rfl, _, rfl, k, rfl, q _ (((s2.trans s3).trans s5).trans s4)⟩
    | block n k =>
      have okn : nameOk n = true := ok
      obtain ⟨x, y, rfl, hx, hy⟩ : ∃ x y, ys = [x, y] ∧ Tv H2 (.str n) x ∧ Tv H2 (.bl k) y := by
        match ys, tr2 with
        | [x, y], t => exact ⟨x, y, rfl, t.1, t.2.1⟩
      have hx : x = .str n := hx
      have hy : y = .bl k := hy
      subst hx hy
      refine ⟨_, rfl, rfl, _, rfl, iteF ?_⟩
      refine ⟨_, rfl, (by show 2 ≤ sizeLine; decide), fun t ht => ⟨t, _, rfl, .inr (SqT.of upd_same), rfl, rfl, _, rfl, ?_⟩⟩
      have s3 := same_new (o := .tup [.str "vouch", .str "circle"]) ht
      have ep3 := s3 _ _ ep
      refine iteF ?_
      refine ⟨_, rfl, (by show 2 ≤ sizeLine; decide), fun t2 ht2 => ⟨t2, _, rfl, .inr (SqT.of upd_same), rfl, rfl, _, rfl, iteT ?_⟩⟩
      have s5 := same_new (o := .tup [.str "back", .str "block"]) ht2
      have ep5 := s5 _ _ ep3
      refine ⟨_, rfl, _, _, rfl, .inr (SqT.of ep5), rfl, _, rfl, iteT ?_⟩
      refine ⟨_, rfl, _, _, _, _, rfl, rfl, SqT.of ep5, atI_nat (j := 0) rfl, _, rfl, n, rfl, name1000 okn, fun H4 s4 => ⟨_, rfl, ?_⟩⟩
      rw [okn]
      have ep4 := s4 _ _ ep5
      exact iteT ⟨_, rfl, _, _, _, _, rfl, rfl, SqT.of ep4, atI_nat (j := 1) rfl, _, rfl, k, rfl, q _ (((s2.trans s3).trans s5).trans s4)⟩
    | speak z y side =>
      obtain ⟨okn, ok2⟩ := band ok
      obtain ⟨ok2, ok3⟩ := band ok2
      obtain rfl : ys = [.str z, .str y, .str side] := TvAll.strs (zs := [z, y, side]).mp tr2
      refine ⟨_, rfl, rfl, _, rfl, iteF ?_⟩
      refine ⟨_, rfl, (by show 2 ≤ sizeLine; decide), fun t ht => ⟨t, _, rfl, .inr (SqT.of upd_same), rfl, rfl, _, rfl, iteF ?_⟩⟩
      have s3 := same_new (o := .tup [.str "vouch", .str "circle"]) ht
      have ep3 := s3 _ _ ep
      refine ⟨_, rfl, (by show 2 ≤ sizeLine; decide), fun t2 ht2 => ⟨t2, _, rfl, .inr (SqT.of upd_same), rfl, rfl, _, rfl, iteF ?_⟩⟩
      have s5 := same_new (o := .tup [.str "back", .str "block"]) ht2
      have ep5 := s5 _ _ ep3
      refine ⟨_, rfl, rfl, _, rfl, iteT ?_⟩
      refine ⟨_, rfl, _, _, rfl, .inr (SqT.of ep5), rfl, _, rfl, iteT ?_⟩
      exact ⟨_, rfl, _, rfl, p, z, y, side, rfl, ep5, okn, ok2, of_decide_eq_true ok3, fun H4 s4 => q _ (((s2.trans s3).trans s5).trans s4)⟩
    | post n t body =>
      obtain ⟨okn, ok2⟩ := band ok
      obtain ⟨ok2, ok3⟩ := band ok2
      obtain ⟨ok3, ok4⟩ := band ok3
      obtain ⟨x, y, z, rfl, hx, hy, hz⟩ : ∃ x y z, ys = [x, y, z] ∧ Tv H2 (.str n) x ∧ Tv H2 (.str t) y ∧ Tv H2 (.tup (body.map Piece.dt)) z := by
        match ys, tr2 with
        | [x, y, z], t => exact ⟨x, y, z, rfl, t.1, t.2.1, t.2.2.1⟩
      have hx : x = .str n := hx
      have hy : y = .str t := hy
      subst hx hy
      refine ⟨_, rfl, rfl, _, rfl, iteF ?_⟩
      refine ⟨_, rfl, (by show 2 ≤ sizeLine; decide), fun t1 ht => ⟨t1, _, rfl, .inr (SqT.of upd_same), rfl, rfl, _, rfl, iteF ?_⟩⟩
      have s3 := same_new (o := .tup [.str "vouch", .str "circle"]) ht
      have ep3 := s3 _ _ ep
      refine ⟨_, rfl, (by show 2 ≤ sizeLine; decide), fun t2 ht2 => ⟨t2, _, rfl, .inr (SqT.of upd_same), rfl, rfl, _, rfl, iteF ?_⟩⟩
      have s5 := same_new (o := .tup [.str "back", .str "block"]) ht2
      have ep5 := s5 _ _ ep3
      refine ⟨_, rfl, rfl, _, rfl, iteF ?_⟩
      refine ⟨_, rfl, rfl, _, rfl, iteT ?_⟩
      refine ⟨_, rfl, _, _, rfl, .inr (SqT.of ep5), rfl, _, rfl, iteT ?_⟩
      exact ⟨_, rfl, _, rfl, p, n, t, z, body, rfl, ep5, hz.keep (tk_same (s3.trans s5)), okn, ok2, of_decide_eq_true ok3, fun p hp => List.all_eq_true.mp ok4 p hp, fun H4 s4 => q _ (((s2.trans s3).trans s5).trans s4)⟩
end
end Lv
set_option maxHeartbeats 4000000
namespace Lv
open PySem PySem.Spec PyProof.Rows L2
def Say.subj : Say → List Str
  | .vouch n _ => ["vouch", n]
  | .circle n _ => ["circle", n]
  | .back n _ => ["back", n]
  | .block n _ => ["block", n]
  | .take n => ["post", n]
  | .speak w s _ => ["speak", w, s]
  | .post n _ _ => ["post", n]
theorem putF_len {f : Str} {v : V} {fs : List (Str × V)} {n : Nat} (h : fs.length ≤ n) : (putF f v fs).length ≤ n + 1 := Nat.le_trans (length_putF f v fs) (Nat.succ_le_succ h)
theorem but1_upd {p : Addr} {H1 H2 : Hp} {o : HO} (x : But1 p H1 H2) : But1 p H1 (upd H2 p o) := But.upd x rfl
def fl_Letter (v0 v1 v2 : V) : List (Str × V) := (putF "saying" v2 (putF "number" v1 (putF "account" v0 [])))
theorem fl_Letter_account (v0 v1 v2 : V) : (fl_Letter v0 v1 v2).lookup ("account" : Str) = some v0 := by
  unfold fl_Letter
  rw [lookup_putF, if_neg (show ¬ (("account" : Str) = "saying") by decide +kernel), lookup_putF, if_neg (show ¬ (("account" : Str) = "number") by decide +kernel), lookup_putF, if_pos rfl]
theorem fl_Letter_number (v0 v1 v2 : V) : (fl_Letter v0 v1 v2).lookup ("number" : Str) = some v1 := by
  unfold fl_Letter
  rw [lookup_putF, if_neg (show ¬ (("number" : Str) = "saying") by decide +kernel), lookup_putF, if_pos rfl]
theorem fl_Letter_saying (v0 v1 v2 : V) : (fl_Letter v0 v1 v2).lookup ("saying" : Str) = some v2 := by
  unfold fl_Letter
  rw [lookup_putF, if_pos rfl]
theorem fl_Letter_no (v0 v1 v2 : V) {m : Str} (h0 : ¬ m = "account") (h1 : ¬ m = "number") (h2 : ¬ m = "saying") : (fl_Letter v0 v1 v2).lookup m = none := by
  unfold fl_Letter
  rw [lookup_putF, if_neg h2, lookup_putF, if_neg h1, lookup_putF, if_neg h0]
  rfl
def LetterAt (K : PySem.W.Frag) (H : Hp) (x : Addr) (acc : Str) (num : Int) (s : Say) : Prop := ∃ dx sv, H x = some (.ins (He.ga K "Letter") dx (fl_Letter (.str acc) (.int num) sv)) ∧ Tv H s.dt sv
section
variable {P : Program} {w : World} {K : PySem.W.Frag} {mg : Str → Option Value} {base : Heap}
def sp_subject_of : Sp := sp1 fun v H Q => ∃ s : Say, Tv H s.dt v ∧ s.ok = true ∧ ∀ H' p, Same H H' → H' p = some (.tup (s.subj.map V.str)) → Q (.ref p) H'
abbrev N_subject_of : List Str := ["saying"]
theorem sc_subject_of : FnScope N_subject_of ["saying"] (defScope s_subject_of) := ⟨rfl, rfl, rfl, by decide +kernel, rfl, by decide +kernel, by decide +kernel⟩
theorem ok_subject_of (T : Txt K mg) : CallOk P w K mg base 8 "subject_of" ["saying"] [] sp_subject_of := by
  refine call_ok T 35 T.g_subject_of sc_subject_of (fun vs H Q E h => ?_) (fun f cdv A outer s H vs Q E hr h => ?_) (fun _ _ _ _ _ _ us hl => match us, hl with | [_], _ => rfl)
  · obtain ⟨x0, rfl, _⟩ := h
    rfl
  · have nd := sc_subject_of.nd
    have hu := hu_of hr
    have hu64 := hu64_of hr
    have c_is_saying := ok_is_saying (P := P) (w := w) (base := base) T
    obtain ⟨x0, rfl, h⟩ := h
    refine ⟨_, (pss_cons (ps_if (pt_not (pt_val (pe_callO c_is_saying (hr.mono (by first | decide | omega)) (pa_cons (pv 0) pa_nil)))) (pss_one ps_never) pss_nil) (pss_cons (ps_if (pt_cmpR (inSK (K := K)) (pe_ix (ixT (K := K)) (pv 0) pe_int (fun _ _ => rfl)) (pe_tup (pa_cons pe_str (pa_cons pe_str pa_nil))) (by with_unfolding_all rfl)) (pss_one (ps_ret (pe_tup (pa_cons pe_str (pa_cons (pe_ix (ixT (K := K)) (pv 0) pe_int (fun _ _ => rfl)) pa_nil))))) pss_nil) (pss_cons (ps_if (pt_cmpR op_eq (pe_ix (ixT (K := K)) (pv 0) pe_int (fun _ _ => rfl)) pe_str (nomark _)) (pss_one (ps_ret (pe_tup (pa_cons pe_str (pa_cons (pe_ix (ixT (K := K)) (pv 0) pe_int (fun _ _ => rfl)) (pa_cons (pe_ix (ixT (K := K)) (pv 0) pe_int (fun _ _ => rfl)) pa_nil)))))) pss_nil) (pss_one (ps_ret (pe_tup (pa_cons (pe_ix (ixT (K := K)) (pv 0) pe_int (fun _ _ => rfl)) (pa_cons (pe_ix (ixT (K := K)) (pv 0) pe_int (fun _ _ => rfl)) pa_nil)))))))), ?_⟩
    obtain ⟨s, tv, ok, q⟩ := h
    refine ⟨_, rfl, _, rfl, s, tv, ok, fun H1 s1 => ⟨_, rfl, iteF ?_⟩⟩
    obtain ⟨a, ys, rfl, e, tr⟩ := Say.at_ (tv.keep (tk_same s1))
    have sz : (2 : Nat) ≤ sizeLine ∧ (3 : Nat) ≤ sizeLine := by decide
    refine ⟨_, rfl, _, _, _, _, rfl, rfl, SqT.of e, atI_nat (j := 0) rfl, sz.1, fun t ht => ⟨t, _, rfl, .inr (SqT.of upd_same), rfl, rfl, _, rfl, ?_⟩⟩
    have s2 := s1.trans (same_new (o := .tup [.str "post", .str "take"]) ht)
    have e2 := same_new (o := .tup [.str "post", .str "take"]) ht _ _ e
    cases s with
    | take n =>
      obtain rfl : ys = [.str n] := TvAll.strs (zs := [n]).mp tr
      exact iteT ⟨_, rfl, _, _, _, _, rfl, rfl, SqT.of e2, atI_nat (j := 1) rfl, sz.1, fun p hp => q _ p (same_to s2 hp) upd_same⟩
    | post n y body =>
      obtain ⟨z, r, rfl⟩ : ∃ z r, ys = .str n :: z :: r := by
        match ys, tr with
        | [x, y, z], t => exact ⟨y, [z], by have e : x = .str n := t.1; rw [e]⟩
      exact iteT ⟨_, rfl, _, _, _, _, rfl, rfl, SqT.of e2, atI_nat (j := 1) rfl, sz.1, fun p hp => q _ p (same_to s2 hp) upd_same⟩
    | speak z y side =>
      obtain rfl : ys = [.str z, .str y, .str side] := TvAll.strs (zs := [z, y, side]).mp tr
      refine iteF ⟨_, rfl, _, _, _, _, rfl, rfl, SqT.of e2, atI_nat (j := 0) rfl, rfl, _, rfl, iteT ?_⟩
      exact ⟨_, rfl, _, _, _, _, rfl, rfl, SqT.of e2, atI_nat (j := 1) rfl, _, rfl, _, _, _, _, rfl, rfl, SqT.of e2, atI_nat (j := 2) rfl, sz.2, fun p hp => q _ p (same_to s2 hp) upd_same⟩
    | vouch n k =>
      obtain ⟨r, rfl⟩ : ∃ r, ys = .str n :: r := by
        match ys, tr with
        | x :: r, t => exact ⟨r, by have e : x = .str n := t.1; rw [e]⟩
      refine iteF ⟨_, rfl, _, _, _, _, rfl, rfl, SqT.of e2, atI_nat (j := 0) rfl, rfl, _, rfl, iteF ?_⟩
      exact ⟨_, rfl, _, _, _, _, rfl, rfl, SqT.of e2, atI_nat (j := 0) rfl, _, rfl, _, _, _, _, rfl, rfl, SqT.of e2, atI_nat (j := 1) rfl, sz.1, fun p hp => q _ p (same_to s2 hp) upd_same⟩
    | circle n k =>
      obtain ⟨r, rfl⟩ : ∃ r, ys = .str n :: r := by
        match ys, tr with
        | x :: r, t => exact ⟨r, by have e : x = .str n := t.1; rw [e]⟩
      refine iteF ⟨_, rfl, _, _, _, _, rfl, rfl, SqT.of e2, atI_nat (j := 0) rfl, rfl, _, rfl, iteF ?_⟩
      exact ⟨_, rfl, _, _, _, _, rfl, rfl, SqT.of e2, atI_nat (j := 0) rfl, _, rfl, _, _, _, _, rfl, rfl, SqT.of e2, atI_nat (j := 1) rfl, sz.1, fun p hp => q _ p (same_to s2 hp) upd_same⟩
    | back n k =>
      obtain ⟨r, rfl⟩ : ∃ r, ys = .str n :: r := by
        match ys, tr with
        | x :: r, t => exact ⟨r, by have e : x = .str n := t.1; rw [e]⟩
      refine iteF ⟨_, rfl, _, _, _, _, rfl, rfl, SqT.of e2, atI_nat (j := 0) rfl, rfl, _, rfl, iteF ?_⟩
      exact ⟨_, rfl, _, _, _, _, rfl, rfl, SqT.of e2, atI_nat (j := 0) rfl, _, rfl, _, _, _, _, rfl, rfl, SqT.of e2, atI_nat (j := 1) rfl, sz.1, fun p hp => q _ p (same_to s2 hp) upd_same⟩
    | block n k =>
      obtain ⟨r, rfl⟩ : ∃ r, ys = .str n :: r := by
        match ys, tr with
        | x :: r, t => exact ⟨r, by have e : x = .str n := t.1; rw [e]⟩
      refine iteF ⟨_, rfl, _, _, _, _, rfl, rfl, SqT.of e2, atI_nat (j := 0) rfl, rfl, _, rfl, iteF ?_⟩
      exact ⟨_, rfl, _, _, _, _, rfl, rfl, SqT.of e2, atI_nat (j := 0) rfl, _, rfl, _, _, _, _, rfl, rfl, SqT.of e2, atI_nat (j := 1) rfl, sz.1, fun p hp => q _ p (same_to s2 hp) upd_same⟩
def sp_Letter_init (K : PySem.W.Frag) : Sp := sp4 fun v x0 x1 x2 H Q => ∃ (x dx : Addr) (acc : Str) (num : Int) (s : Say), v = .ref x ∧ H x = some (.ins (He.ga K "Letter") dx []) ∧ x0 = .str acc ∧ nameOk acc = true ∧ x1 = .int num ∧ 1 ≤ num ∧ Tv H s.dt x2 ∧ s.ok = true ∧
  ∀ H', But1 x H H' → LetterAt K H' x acc num s → Q .non H'
abbrev N_Letter_init : List Str := ["self", "account", "number", "saying"]
theorem sc_Letter_init : FnScope N_Letter_init ["self", "account", "number", "saying"] (defScope s_Letter_init) := ⟨rfl, rfl, rfl, by decide +kernel, rfl, by decide +kernel, by decide +kernel⟩
theorem ok_Letter_init (T : Txt K mg) : MakeOk P w K mg base 8 "Letter" (He.ga K "Letter") ["self", "account", "number", "saying"] (sp_Letter_init K) := by
  refine make_ok (q := "Letter.__init__") T 36 T.g_Letter T.mk_Letter sc_Letter_init (fun vs H Q E h => ?_) (fun f cdv A outer s H vs Q E hr h => ?_) (fun _ _ _ _ _ _ us hl => match us, hl with | [_, _, _, _], _ => rfl)
  · obtain ⟨x0, x1, x2, x3, rfl, _⟩ := h
    rfl
  · have nd := sc_Letter_init.nd
    have hu := hu_of hr
    have hu64 := hu64_of hr
    have c_is_name := ok_is_name (P := P) (w := w) (base := base) T
    have c_is_whole2 := ok_is_whole2 (P := P) (w := w) (base := base) T
    have c_is_saying := ok_is_saying (P := P) (w := w) (base := base) T
    obtain ⟨x0, x1, x2, x3, rfl, h⟩ := h
    refine ⟨_, (pss_cons (ps_if (pt_not (pt_val (pe_callO c_is_name (hr.mono (by first | decide | omega)) (pa_cons (pv 1) pa_nil)))) (pss_one ps_never) pss_nil) (pss_cons (ps_if (pt_not (pt_val (pe_callO c_is_whole2 (hr.mono (by first | decide | omega)) (pa_cons (pv 2) (pa_cons pe_int pa_nil))))) (pss_one ps_never) pss_nil) (pss_cons (ps_if (pt_not (pt_val (pe_callO c_is_saying (hr.mono (by first | decide | omega)) (pa_cons (pv 3) pa_nil)))) (pss_one ps_never) pss_nil) (pss_cons (ps_fld (pv 0) (pv 1) rfl) (pss_cons (ps_fld (pv 0) (pv 2) rfl) (pss_one (ps_fld (pv 0) (pe_callTy (tupleOfK (K := K)) (by rfl) T.b_tuple boot_tuple (pa_cons (pv 3) pa_nil)) rfl))))))), ?_⟩
    obtain ⟨x, dx, acc, num, s, rfl, ox, rfl, ok1, rfl, ok2, tv, ok3, q⟩ := h
    refine ⟨_, rfl, _, rfl, acc, rfl, name1000 ok1, fun H1 s1 => ⟨_, rfl, ?_⟩⟩
    rw [ok1]
    refine iteF ⟨_, rfl, _, _, _, rfl, num, 1, rfl, rfl, .inl ⟨rfl, _, rfl, ?_⟩⟩
    rw [decide_eq_true ok2]
    refine iteF ⟨_, rfl, _, rfl, s, tv.keep (tk_same s1), ok3, fun H2 s2 => ⟨_, rfl, iteF ?_⟩⟩
    have s12 := s1.trans s2
    have o2 := s12 _ _ ox
    have tv2 := tv.keep (tk_same s12)
    obtain ⟨a, ys, rfl, e, tr⟩ := Say.at_ tv2
    refine ⟨_, rfl, _, rfl, x, _, dx, _, rfl, o2, T.cls_Letter, T.na_Letter_account, (by decide), ?_⟩
    refine ⟨_, rfl, _, rfl, x, _, dx, _, rfl, upd_same, T.cls_Letter, T.na_Letter_number, Nat.lt_of_le_of_lt (putF_len (Nat.le_refl _)) (by decide), ?_⟩
    have nax : a ≠ x := ne_of e o2 (by intro z; cases z)
    refine ⟨_, rfl, a, _, rfl, .inr ⟨SqT.of (by rw [upd_ne nax, upd_ne nax]; exact e), ?_⟩⟩
    refine ⟨_, rfl, x, _, dx, _, rfl, upd_same, T.cls_Letter, T.na_Letter_saying, Nat.lt_of_le_of_lt (putF_len (putF_len (Nat.le_refl _))) (by decide), ?_⟩
    have k : Tk H2 (upd (upd (upd H2 x (.ins (He.ga K "Letter") dx (putF "account" (.str acc) []))) x (.ins (He.ga K "Letter") dx (putF "number" (.int num) (putF "account" (.str acc) [])))) x (.ins (He.ga K "Letter") dx (putF "saying" (.ref a) (putF "number" (.int num) (putF "account" (.str acc) []))))) :=
      ((tk_mut o2 (by intro _ z; cases z)).trans (tk_mut upd_same (by intro _ z; cases z))).trans (tk_mut upd_same (by intro _ z; cases z))
    exact q _ (but1_upd (but1_upd (but1_upd (but_same s12)))) ⟨dx, .ref a, upd_same, tv2.keep k⟩
end
end Lv
set_option maxHeartbeats 4000000
namespace Lv
open PySem PySem.Spec PyProof.Rows L2
def pieceText : Piece → Str
  | .word w => w
  | .see a b => Str.empty ++ ("see" : Str) ++ (" " : Str) ++ a ++ ("." : Str) ++ b
def Say.texts : Say → List Str
  | .vouch n k => [n, toString k]
  | .circle n k => [n, toString k]
  | .back n b => [n, if b then "yes" else "no"]
  | .block n b => [n, if b then "yes" else "no"]
  | .take n => [n]
  | .speak w s side => [w, s, side]
  | .post n t body => n :: t :: body.map pieceText
def letterText (acc : Str) (num : Int) (s : Say) : Str := PySem.Txt.join " " (acc :: toString num :: s.tag :: s.texts)
theorem str_len (a b : Str) : (a ++ b).length = a.length + b.length := Str.length_append a b
section
variable {P : Program} {w : World} {K : PySem.W.Frag} {mg : Str → Option Value} {base : Heap}
theorem strOfK {X : Cx} : CallR X (.type "str") (fun xs H Q => (∃ i, xs = [.int i] ∧ i.natAbs.log2 < 1920 ∧ Q (.str (toString i)) H) ∨ ∃ a, xs = [.str a] ∧ Q (.str a) H) := CallR.or call_str_int SkE.call_str_str
def sp_piece_text : Sp := sp1 fun v H Q => ∃ p : Piece, Tv H p.dt v ∧ p.ok = true ∧ ∀ H', Same H H' → Q (.str (pieceText p)) H'
abbrev N_piece_text : List Str := ["piece", "quoted"]
theorem sc_piece_text : FnScope N_piece_text ["piece"] (defScope s_piece_text) := ⟨rfl, rfl, rfl, by decide +kernel, rfl, by decide +kernel, by decide +kernel⟩
theorem ok_piece_text (T : Txt K mg) : CallOk P w K mg base 1 "piece_text" ["piece"] [] sp_piece_text := by
  refine call_ok T 38 T.g_piece_text sc_piece_text (fun vs H Q E h => ?_) (fun f cdv A outer s H vs Q E hr h => ?_) (fun _ _ _ _ _ _ us hl => match us, hl with | [_], _ => rfl)
  · obtain ⟨x0, rfl, _⟩ := h
    rfl
  · have nd := sc_piece_text.nd
    have hu := hu_of hr
    have hu64 := hu64_of hr
    obtain ⟨x0, rfl, h⟩ := h
    refine ⟨_, (pss_cons (ps_if (pt_cmpR op_eq (pe_ix (ixT (K := K)) (pv 0) pe_int (fun _ _ => rfl)) pe_str (nomark _)) (pss_one (ps_ret (pe_ix (ixT (K := K)) (pv 0) pe_int (fun _ _ => rfl)))) pss_nil) (pss_cons (ps_set (i := 1) nd rfl (Or.inl rfl) (pe_joined (PJ.cons (pe_fmt (pe_ix (ixT (K := K)) (pv 0) pe_int (fun _ _ => rfl))) (PJ.cons pe_str (PJ.cons (pe_fmt (pe_ix (ixT (K := K)) (pv 0) pe_int (fun _ _ => rfl))) (PJ.cons pe_str (PJ.cons (pe_fmt (pe_ix (ixT (K := K)) (pv 0) pe_int (fun _ _ => rfl))) PJ.nil))))))) (pss_one (ps_ret (pe_ifExp (pt_cmpR op_eq (pe_ix (ixT (K := K)) (pv 0) pe_int (fun _ _ => rfl)) pe_str (nomark _)) (pv 1) (pe_joined (PJ.cons (pe_fmt (pv 1)) (PJ.cons pe_str (PJ.cons (pe_fmt (pe_ix (ixT (K := K)) (pv 0) pe_int (fun _ _ => rfl))) PJ.nil))))))))), ?_⟩
    obtain ⟨p, tv, ok, q⟩ := h
    cases p with
    | word z =>
      obtain ⟨a, xs, rfl, e, tv⟩ := tv
      obtain rfl : xs = [.str "word", .str z] := TvAll.strs (zs := ["word", z]).mp tv
      refine ⟨_, rfl, _, _, _, _, rfl, rfl, SqT.of e, atI_nat (j := 0) rfl, rfl, _, rfl, iteT ?_⟩
      exact ⟨_, rfl, _, _, _, _, rfl, rfl, SqT.of e, atI_nat (j := 1) rfl, q _ (Same.refl _)⟩
    | see x y =>
      obtain ⟨a, xs, rfl, e, tv⟩ := tv
      obtain rfl : xs = [.str "see", .str x, .str y] := TvAll.strs (zs := ["see", x, y]).mp tv
      have ok : (nameOk x && nameOk y) = true := ok
      obtain ⟨ok1, ok2⟩ := band ok
      have l1 := nameOk_len ok1
      have l2 := nameOk_len ok2
      have l3 : ("see" : Str).length = 3 := by decide +kernel
      have l4 : (" " : Str).length = 1 := by decide +kernel
      have l5 : ("." : Str).length = 1 := by decide +kernel
      have l6 : (Str.empty : Str).length = 0 := rfl
      have sz : sizeLine = 16777216 := sizeLine_eq
      refine ⟨_, rfl, _, _, _, _, rfl, rfl, SqT.of e, atI_nat (j := 0) rfl, rfl, _, rfl, iteF ?_⟩
      refine ⟨_, rfl, _, _, _, _, rfl, rfl, SqT.of e, atI_nat (j := 0) rfl, .inl ⟨_, rfl, (by omega), _, rfl, (by simp only [str_len]; omega), ?_⟩⟩
      refine ⟨_, rfl, (by simp only [str_len]; omega), ?_⟩
      refine ⟨_, rfl, _, _, _, _, rfl, rfl, SqT.of e, atI_nat (j := 1) rfl, .inl ⟨_, rfl, (by omega), _, rfl, (by simp only [str_len]; omega), ?_⟩⟩
      refine ⟨_, rfl, (by simp only [str_len]; omega), ?_⟩
      refine ⟨_, rfl, _, _, _, _, rfl, rfl, SqT.of e, atI_nat (j := 2) rfl, .inl ⟨_, rfl, (by omega), _, rfl, (by simp only [str_len]; omega), ?_⟩⟩
      refine ⟨_, rfl, _, _, _, _, rfl, rfl, SqT.of e, atI_nat (j := 0) rfl, rfl, _, rfl, iteT ?_⟩
      exact ⟨_, rfl, q _ (Same.refl _)⟩
def sp_part_text : Sp := sp1 fun v H Q => (∃ z : Str, v = .str z ∧ Q (.str z) H) ∨ (∃ b : Bool, v = .bl b ∧ Q (.str (if b then "yes" else "no")) H) ∨ ∃ i : Int, v = .int i ∧ i.natAbs.log2 < 1920 ∧ Q (.str (toString i)) H
abbrev N_part_text : List Str := ["part"]
theorem sc_part_text : FnScope N_part_text ["part"] (defScope s_part_text) := ⟨rfl, rfl, rfl, by decide +kernel, rfl, by decide +kernel, by decide +kernel⟩
theorem ok_part_text (T : Txt K mg) : CallOk P w K mg base 1 "part_text" ["part"] [] sp_part_text := by
  refine call_ok T 39 T.g_part_text sc_part_text (fun vs H Q E h => ?_) (fun f cdv A outer s H vs Q E hr h => ?_) (fun _ _ _ _ _ _ us hl => match us, hl with | [_], _ => rfl)
  · obtain ⟨x0, rfl, _⟩ := h
    rfl
  · have nd := sc_part_text.nd
    have hu := hu_of hr
    have hu64 := hu64_of hr
    obtain ⟨x0, rfl, h⟩ := h
    refine ⟨_, (pss_cons (ps_if (pt_val (pe_callB (isiK (K := K)) (by rfl) T.b_isinstance boot_isinstance (pa_cons (pv 0) (pa_cons (pe_gty T.b_bool boot_bool) pa_nil)))) (pss_one (ps_ret (pe_ifExp (truthK (K := K) (pv 0)) pe_str pe_str))) pss_nil) (pss_one (ps_ret (pe_callTy strOfK (by rfl) T.b_str boot_str (pa_cons (pv 0) pa_nil))))), ?_⟩
    rcases h with ⟨z, rfl, q⟩ | ⟨b, rfl, q⟩ | ⟨i, rfl, hi, q⟩
    · refine ⟨_, rfl, _, _, .type "str", _, _, rfl, .ty _, .base (.str _), kit_ty k_str_bool, _, rfl, iteF ?_⟩
      exact ⟨_, rfl, .inr ⟨_, rfl, q⟩⟩
    · refine ⟨_, rfl, _, _, .type "bool", _, _, rfl, .ty _, .base (.bl _), kit_ty k_bool_bool, _, rfl, iteT ?_⟩
      refine ⟨_, rfl, _, rfl, ?_⟩
      cases b with
      | true => exact iteT q
      | false => exact iteF q
    · refine ⟨_, rfl, _, _, .type "int", _, _, rfl, .ty _, .base (.int _), kit_ty k_int_bool, _, rfl, iteF ?_⟩
      exact ⟨_, rfl, .inl ⟨_, rfl, hi, q⟩⟩
theorem joinK {X : Cx} {K : PySem.W.Frag} {o e : Expr} {to te : TE} {apos pos : Pos} (ho : PE X o to) (he : PE X e te) (hs : starEach [e] X.env = [(false, eval e X.env)] := by rfl) (hbase : attributeBase o "join" X.env (eval o X.env) = eval o X.env := by rfl) (hline : (apos.endLine == pos.line) = true := by rfl) (hK : X.K = K := by rfl) :
    PE X (.Call (.Attribute o "join" apos) [e] [] pos) (tM1 (fun x xs H Q => ∃ a p, ∃ ys : List Str, x = .str a ∧ xs = [.ref p] ∧ (SqL K H p (ys.map V.str) ∨ SqT K H p (ys.map V.str)) ∧
      (ys.map (·.length)).sum + ys.length * a.length ≤ 16777216 ∧ Q (.str (PySem.Txt.join a ys)) H) to te) := by
  subst hK
  exact pe_join ho he hs hbase hline
theorem sum_le {l : List Nat} {b : Nat} (h : ∀ x ∈ l, x ≤ b) : l.sum ≤ l.length * b := by
  induction l with
  | nil => simp
  | cons x r ih =>
    have h1 := h x List.mem_cons_self
    have h2 := ih fun y hy => h y (List.mem_cons_of_mem _ hy)
    simp only [List.sum_cons, List.length_cons, Nat.succ_mul]
    omega
theorem pieceText_len {p : Piece} (h : p.ok = true) : (pieceText p).length ≤ 29 := by
  cases p with
  | word z =>
    have := wordOk_len (z := z) h
    show z.length ≤ 29
    omega
  | see a b =>
    have h : (nameOk a && nameOk b) = true := h
    obtain ⟨h1, h2⟩ := band h
    have l1 := nameOk_len h1
    have l2 := nameOk_len h2
    have l3 : ("see" : Str).length = 3 := by decide +kernel
    have l4 : (" " : Str).length = 1 := by decide +kernel
    have l5 : ("." : Str).length = 1 := by decide +kernel
    have l6 : (Str.empty : Str).length = 0 := rfl
    show (Str.empty ++ ("see" : Str) ++ (" " : Str) ++ a ++ ("." : Str) ++ b).length ≤ 29
    simp only [str_len]
    omega
theorem tag_mem (s : Say) : s.tag ∈ (["vouch", "circle", "back", "block", "take", "speak", "post"] : List Str) := by cases s <;> simp [Say.tag]
theorem tag_len (s : Say) : s.tag.length ≤ 6 := (by decide +kernel : ∀ z ∈ (["vouch", "circle", "back", "block", "take", "speak", "post"] : List Str), z.length ≤ 6) _ (tag_mem s)
theorem subj_len {z : Str} (h : subjOk z = true) : z.length ≤ 1000 := (of_decide_eq_true (band h).1).1
theorem int_len {i : Int} (h : i.natAbs.log2 < 1920) : ((toString i : String) : Str).length ≤ 1921 := int_text_len_1921 h
theorem unit_log {k : Int} (h : 0 ≤ k ∧ k ≤ 24) : k.natAbs.log2 < 1920 := by
  have h1 : k.natAbs ≤ 24 := by omega
  by_cases h0 : k.natAbs = 0
  · rw [h0]
    decide
  · exact Nat.lt_of_lt_of_le ((Nat.log2_lt h0).mpr (Nat.lt_of_le_of_lt h1 (by decide : 24 < 2 ^ 5))) (by decide)
theorem texts_len {s : Say} (h : s.ok = true) : ∀ z ∈ s.texts, z.length ≤ 2000 := by
  have y : (("yes" : String) : Str).length ≤ 2000 := by decide +kernel
  have n : (("no" : String) : Str).length ≤ 2000 := by decide +kernel
  intro z hz
  cases s with
  | vouch a k =>
    obtain ⟨h1, h2⟩ := band h
    have l1 := nameOk_len h1
    rcases List.mem_cons.mp hz with rfl | hz
    · omega
    · obtain rfl := List.mem_singleton.mp hz
      have := int_len (unit_log (of_decide_eq_true h2))
      omega
  | circle a k =>
    obtain ⟨h1, h2⟩ := band h
    have l1 := nameOk_len h1
    rcases List.mem_cons.mp hz with rfl | hz
    · omega
    · obtain rfl := List.mem_singleton.mp hz
      have := int_len (unit_log (of_decide_eq_true h2))
      omega
  | back a b =>
    have l1 := nameOk_len (z := a) h
    rcases List.mem_cons.mp hz with rfl | hz
    · omega
    · obtain rfl := List.mem_singleton.mp hz
      cases b <;> assumption
  | block a b =>
    have l1 := nameOk_len (z := a) h
    rcases List.mem_cons.mp hz with rfl | hz
    · omega
    · obtain rfl := List.mem_singleton.mp hz
      cases b <;> assumption
  | take a =>
    have l1 := nameOk_len (z := a) h
    obtain rfl := List.mem_singleton.mp hz
    omega
  | speak a b c =>
    obtain ⟨h1, h2⟩ := band h
    obtain ⟨h2, h3⟩ := band h2
    have l1 := nameOk_len h1
    have l2 := subj_len h2
    rcases List.mem_cons.mp hz with rfl | hz
    · omega
    · rcases List.mem_cons.mp hz with rfl | hz
      · omega
      · obtain rfl := List.mem_singleton.mp hz
        have h3 := of_decide_eq_true h3
        have l : ∀ x ∈ [("for" : Str), "against", "none"], x.length ≤ 2000 := by decide +kernel
        exact l _ h3
  | post a t body =>
    obtain ⟨h1, h2⟩ := band h
    obtain ⟨h2, h3⟩ := band h2
    obtain ⟨h3, h4⟩ := band h3
    have l1 := nameOk_len h1
    have l2 := nameOk_len h2
    rcases List.mem_cons.mp hz with rfl | hz
    · omega
    · rcases List.mem_cons.mp hz with rfl | hz
      · omega
      · obtain ⟨p, hp, rfl⟩ := List.mem_map.mp hz
        have := pieceText_len (List.all_eq_true.mp h4 p hp)
        omega
theorem texts_few {s : Say} (h : s.ok = true) : s.texts.length ≤ 22 := by
  cases s with
  | post a t body =>
    obtain ⟨_, h2⟩ := band h
    obtain ⟨_, h3⟩ := band h2
    obtain ⟨h3, _⟩ := band h3
    have := of_decide_eq_true h3
    simp only [Say.texts, List.length_cons, List.length_map]
    omega
  | _ => simp [Say.texts]
end
end Lv
set_option maxHeartbeats 4000000
namespace Lv
open PySem PySem.Spec PyProof.Rows L2
theorem ne_post : ∀ z ∈ (["vouch", "circle", "back", "block", "take", "speak"] : List Str), ¬ z = ("post" : Str) := by decide +kernel
theorem join_ok {acc : Str} {num : Int} {s : Say} (h1 : nameOk acc = true) (h2 : num.natAbs.log2 < 1920) (h3 : s.ok = true) :
    ((acc :: (toString num : String) :: s.tag :: s.texts : List Str).map (·.length)).sum + (acc :: (toString num : String) :: s.tag :: s.texts : List Str).length * (" " : Str).length ≤ 16777216 := by
  have l1 := nameOk_len h1
  have l2 := int_len h2
  have l3 := tag_len s
  have l4 := texts_few h3
  have l5 : (" " : Str).length = 1 := by decide +kernel
  have l6 : (s.texts.map (·.length)).sum ≤ s.texts.length * 2000 := by
    have := sum_le (l := s.texts.map (·.length)) (b := 2000) fun x hx => by
      obtain ⟨z, hz, rfl⟩ := List.mem_map.mp hx
      exact texts_len h3 z hz
    simpa using this
  simp only [List.map_cons, List.sum_cons, List.length_cons, l5, Nat.mul_one]
  omega
section
variable {P : Program} {w : World} {K : PySem.W.Frag} {mg : Str → Option Value} {base : Heap}
def partText : Dt → Str
  | .str z => z
  | .bl b => if b then "yes" else "no"
  | .int i => toString i
  | _ => Str.empty
def partOk : Dt → Prop
  | .str _ => True
  | .bl _ => True
  | .int i => i.natAbs.log2 < 1920
  | _ => False
def sp_letter_text (K : PySem.W.Frag) : Sp := sp1 fun v H Q => ∃ (x : Addr) (acc : Str) (num : Int) (s : Say), v = .ref x ∧ LetterAt K H x acc num s ∧ nameOk acc = true ∧ num.natAbs.log2 < 1920 ∧ s.ok = true ∧ ∀ H', Same H H' → Q (.str (letterText acc num s)) H'
abbrev N_letter_text : List Str := ["letter", "saying", "words", "piece", "part"]
theorem sc_letter_text : FnScope N_letter_text ["letter"] (defScope s_letter_text) := ⟨rfl, rfl, rfl, by decide +kernel, rfl, by decide +kernel, by decide +kernel⟩
theorem ok_letter_text (T : Txt K mg) : CallOk P w K mg base 2 "letter_text" ["letter"] [] (sp_letter_text K) := by
  refine call_ok T 40 T.g_letter_text sc_letter_text (fun vs H Q E h => ?_) (fun f cdv A outer s H vs Q E hr h => ?_) (fun _ _ _ _ _ _ us hl => match us, hl with | [_], _ => rfl)
  · obtain ⟨x0, rfl, _⟩ := h
    rfl
  · have nd := sc_letter_text.nd
    have hu := hu_of hr
    have hu64 := hu64_of hr
    have c_piece_text := ok_piece_text (P := P) (w := w) (base := base) T
    have c_part_text := ok_part_text (P := P) (w := w) (base := base) T
    obtain ⟨x0, rfl, h⟩ := h
    refine ⟨_, (pss_cons (ps_set (i := 1) nd rfl (Or.inl rfl) (fldK (K := K) (pv 0) rfl)) (pss_cons (ps_set (i := 2) nd rfl (Or.inl rfl) (pe_lst (pa_cons (fldK (K := K) (pv 0) rfl) (pa_cons (pe_callTy call_str_int (by rfl) T.b_str boot_str (pa_cons (fldK (K := K) (pv 0) rfl) pa_nil)) (pa_cons (pe_ix (ixT (K := K)) (pv 1) pe_int (fun _ _ => rfl)) pa_nil))))) (pss_cons (ps_if (pt_cmpR op_eq (pe_ix (ixT (K := K)) (pv 1) pe_int (fun _ _ => rfl)) pe_str (nomark _)) (pss_one (ps_set (i := 2) nd rfl (Or.inl rfl) (pe_op op_cat (pe_op op_cat (pv 2) (pe_lst (pa_cons (pe_ix (ixT (K := K)) (pv 1) pe_int (fun _ _ => rfl)) (pa_cons (pe_ix (ixT (K := K)) (pv 1) pe_int (fun _ _ => rfl)) pa_nil)))) (pe_lc (own := [("piece", 3)]) (g := (gName 3)) (tt := tYes) rfl nd (pi_tup (pe_ix (ixT (K := K)) (pv 1) pe_int (fun _ _ => rfl))) (blkOk_by (own := [("piece", 3)]) (N := N_letter_text) (sc := defScope s_letter_text) (by decide +kernel)) (fun _ _ _ _ _ => (pg_name (i := 3) nd rfl (Or.inl rfl))) (fun _ _ _ _ _ => pts_nil) (fun _ _ _ _ _ => (pe_callO c_piece_text (hr.mono (by first | decide | omega)) (pa_cons (pv 3) pa_nil))))))) (pss_one (ps_set (i := 2) nd rfl (Or.inl rfl) (pe_op op_cat (pv 2) (pe_lc (own := [("part", 4)]) (g := (gName 4)) (tt := tYes) rfl nd (pi_tup (pe_slice (slAK (K := K)) (pv 1) (po_some pe_int) po_none)) (blkOk_by (own := [("part", 4)]) (N := N_letter_text) (sc := defScope s_letter_text) (by decide +kernel)) (fun _ _ _ _ _ => (pg_name (i := 4) nd rfl (Or.inl rfl))) (fun _ _ _ _ _ => pts_nil) (fun _ _ _ _ _ => (pe_callO c_part_text (hr.mono (by first | decide | omega)) (pa_cons (pv 4) pa_nil)))))))) (pss_one (ps_ret (joinK (K := K) pe_str (pv 2))))))), ?_⟩
    obtain ⟨x, acc, num, s, rfl, ⟨dx, sv, ox, tv⟩, ok1, ok2, ok3, q⟩ := h
    have jn := join_ok ok1 ok2 ok3
    obtain ⟨a, ys, rfl, e, tr⟩ := Say.at_ tv
    have sz : sizeLine = 16777216 := sizeLine_eq
    refine ⟨_, rfl, _, _, _, _, _, rfl, ox, T.cls_Letter, T.na_Letter_saying, fl_Letter_saying .., ?_⟩
    refine ⟨_, rfl, _, _, _, _, _, rfl, ox, T.cls_Letter, T.na_Letter_account, fl_Letter_account .., _, rfl, _, _, _, _, _, rfl, ox, T.cls_Letter, T.na_Letter_number, fl_Letter_number .., _, rfl, ok2, _, rfl, _, _, _, _, rfl, rfl, SqT.of e, atI_nat (j := 0) rfl, (by show 3 ≤ sizeLine; decide), fun l hl => ?_⟩
    have s1 := same_new (o := .lst [.str acc, .str (toString num), .str s.tag]) hl
    have e1 := s1 _ _ e
    refine ⟨_, rfl, _, _, _, _, rfl, rfl, SqT.of e1, atI_nat (j := 0) rfl, rfl, _, rfl, ?_⟩
    refine iteB (fun hp => ?_) (fun hp => ?_)
    · have hp : s.tag = ("post" : Str) := by simpa using hp
      cases s with
      | post n t body =>
        obtain ⟨y, rfl, tb⟩ : ∃ y, ys = [.str n, .str t, y] ∧ Tv H (.tup (body.map Piece.dt)) y := by
          match ys, tr with
          | [x, y, z], t => exact ⟨z, by have e : x = .str n := t.1; have e2 : y = _ := t.2.1; rw [e, e2], t.2.2.1⟩
        obtain ⟨b, zs, rfl, eb, tz⟩ := tb
        have hz : zs.length = body.length := by simpa using tz.length.symm
        obtain ⟨_, hk⟩ := band ok3
        obtain ⟨_, hk⟩ := band hk
        obtain ⟨hk1, hk2⟩ := band hk
        have hk1 := of_decide_eq_true hk1
        refine ⟨_, rfl, _, rfl, _, _, _, _, rfl, rfl, SqT.of e1, atI_nat (j := 1) rfl, _, rfl, _, _, _, _, rfl, rfl, SqT.of e1, atI_nat (j := 2) rfl, (by show 2 ≤ sizeLine; decide), fun m hm => ?_⟩
        have s2 := s1.trans (same_new (o := .lst [.str n, .str t]) hm)
        refine ⟨l, m, _, _, rfl, rfl, (by rw [upd_ne (ne_of_none upd_same hm)]; exact upd_same), upd_same, (by show 3 + 2 ≤ sizeLine; decide), fun p hp => ?_⟩
        have s3 := s2.trans (same_new (o := .lst ([.str acc, .str (toString num), .str (Say.tag (.post n t body))] ++ [.str n, .str t])) hp)
        have e3 := s3 _ _ e
        have eb3 := s3 _ _ eb
        refine ⟨_, rfl, _, _, _, _, rfl, rfl, SqT.of e3, atI_nat (j := 3) rfl, b, rfl, ⟨zs, SqT.of eb3⟩, fun D hD => lc_rel walk_tup (RF fun i => .str (match body[i]? with | some p => pieceText p | none => Str.empty)) hD (fun H1 s => SqT.of (s _ _ eb3)) rfl ?_ ?_⟩
        · rintro i v l1 H1 H2 hi hl2 s4 e4 r ⟨rfl, hx2⟩
          refine ⟨rfl, ?_⟩
          obtain ⟨pc, hpc, tp⟩ := TvAll.pieces ((tz.keep (tk_same s3)).keep (tk_same s4)) hx2
          refine ⟨_, rfl, _, rfl, pc, tp, List.all_eq_true.mp hk2 pc (List.mem_of_getElem? hpc), fun H3 s5 => lc_takeF hD (by omega) hl2 (s4.trans s5) (s5 _ _ e4) r ?_⟩
          rw [hpc]
        · intro l1 H1 hl2 s4 e4 r
          have r : l1 = _ := r
          have el : l1 = (body.map pieceText).map V.str := by
            rw [r, hz, List.map_map]
            refine map_range fun j x hj => ?_
            rw [hj]
            rfl
          have nDp : D ≠ p := fun z => by
            subst z
            rw [upd_same] at hD
            cases hD
          refine ⟨p, D, _, _, rfl, rfl, s4 _ _ upd_same, e4, ?_, fun r hr => ?_⟩
          · have : l1.length ≤ 20 := by
              rw [el]
              simpa using hk1
            simp only [List.length_append, List.length_cons, List.length_nil]
            omega
          · refine ⟨⟨_, rfl⟩, _, rfl, " ", r, (acc :: (toString num : String) :: Say.tag (.post n t body) :: Say.texts (.post n t body)), rfl, rfl, .inl (SqL.of ?_), jn, ?_⟩
            · rw [upd_same, el]
              rfl
            · exact q _ ((s3.trans s4).trans (same_new hr))
      | _ => exact absurd hp (ne_post _ (by simp [Say.tag]))
    · have hp : ¬ s.tag = ("post" : Str) := by simpa using hp
      have hpt : ∀ (j : Nat) (d : Dt), s.rest[j]? = some d → partOk d := by
        intro j d hj
        have hm := List.mem_of_getElem? hj
        cases s with
        | vouch n k =>
          obtain ⟨h1, h2⟩ := band ok3
          rcases List.mem_cons.mp hm with rfl | hm
          · trivial
          · obtain rfl := List.mem_singleton.mp hm
            exact unit_log (of_decide_eq_true h2)
        | circle n k =>
          obtain ⟨h1, h2⟩ := band ok3
          rcases List.mem_cons.mp hm with rfl | hm
          · trivial
          · obtain rfl := List.mem_singleton.mp hm
            exact unit_log (of_decide_eq_true h2)
        | back n b => rcases List.mem_cons.mp hm with rfl | hm <;> first | trivial | (obtain rfl := List.mem_singleton.mp hm; trivial)
        | block n b => rcases List.mem_cons.mp hm with rfl | hm <;> first | trivial | (obtain rfl := List.mem_singleton.mp hm; trivial)
        | take n => obtain rfl := List.mem_singleton.mp hm; trivial
        | speak a b c => rcases List.mem_cons.mp hm with rfl | hm <;> first | trivial | (rcases List.mem_cons.mp hm with rfl | hm <;> first | trivial | (obtain rfl := List.mem_singleton.mp hm; trivial))
        | post n t body => exact absurd rfl hp
      have hxt : s.texts = s.rest.map partText := by
        cases s <;> first | rfl | exact absurd rfl hp
      have hl3 := s.rest_len
      have hly : s.rest.length = ys.length := tr.length
      refine ⟨_, rfl, _, rfl, _, rfl, _, _, rfl, SqT.of e1, fun z => absurd z sl1, fun _ c hc => ?_⟩
      rw [cut1]
      have s2 := s1.trans (same_new (o := .tup ys) hc)
      have tr2 := tr.keep (tk_same s2)
      refine ⟨c, rfl, ⟨ys, SqT.of upd_same⟩, fun D hD => lc_rel walk_tup (RF fun i => .str (match s.rest[i]? with | some d => partText d | none => Str.empty)) hD (fun H1 s => SqT.of (s _ _ upd_same)) rfl ?_ ?_⟩
      · rintro i v l1 H1 H2 hi hl2 s4 e4 r ⟨rfl, hx2⟩
        refine ⟨rfl, ?_⟩
        obtain ⟨d, hd, td⟩ := (tr2.keep (tk_same s4)).get hx2
        have ok := hpt i d hd
        have fin : ∀ z, z = partText d → ∃ acc, H2 D = some (.lst acc) ∧ acc.length < sizeLine ∧ LcI _ D (RF fun i => .str (match s.rest[i]? with | some d => partText d | none => Str.empty)) (i + 1) (upd H2 D (.lst (acc ++ [.str z]))) := fun z hz =>
          lc_takeF hD (by omega) hl2 s4 e4 r (by rw [hd, hz])
        cases d with
        | str z =>
          have td : v = .str z := td
          subst td
          exact ⟨_, rfl, _, rfl, .inl ⟨z, rfl, fin _ rfl⟩⟩
        | bl b =>
          have td : v = .bl b := td
          subst td
          exact ⟨_, rfl, _, rfl, .inr (.inl ⟨b, rfl, fin _ rfl⟩)⟩
        | int k =>
          have td : v = .int k := td
          subst td
          exact ⟨_, rfl, _, rfl, .inr (.inr ⟨k, rfl, ok, fin _ rfl⟩)⟩
        | non => exact ok.elim
        | tup _ => exact ok.elim
      · intro l1 H1 hl2 s4 e4 r
        have r : l1 = _ := r
        have el : l1 = s.texts.map V.str := by
          rw [r, ← hly, hxt, List.map_map]
          refine map_range fun j x hj => ?_
          rw [hj]
          rfl
        have nl : H1 l = some (.lst [.str acc, .str (toString num), .str s.tag]) := s4 _ _ (by rw [upd_ne (ne_of_none upd_same hc)]; exact upd_same)
        refine ⟨l, D, _, _, rfl, rfl, nl, e4, ?_, fun r hr => ?_⟩
        · have : l1.length ≤ 22 := by
            rw [el]
            simpa using texts_few ok3
          simp only [List.length_cons, List.length_nil]
          omega
        · refine ⟨⟨_, rfl⟩, _, rfl, " ", r, (acc :: (toString num : String) :: s.tag :: s.texts), rfl, rfl, .inl (SqL.of ?_), jn, ?_⟩
          · rw [upd_same, el]
            rfl
          · exact q _ ((s2.trans s4).trans (same_new hr))
end
end Lv
set_option maxHeartbeats 4000000
namespace Lv
open PySem PySem.Spec PyProof.Rows L2
structure Callee (P : Program) (w : World) (K : PySem.W.Frag) (mg : Str → Option Value) (base : Heap) (k : Nat) (f : Addr) (C : Hp → Prop) (sp : Sp) : Prop where
  keep : ∀ H H', C H → Same H H' → C H'
  fn : ∀ (H : Hp) (h : Heap), K.In h → HOk P w H h → C H → PySem.W.FnAt f h
  run : ∀ (A : Around) (outer : List Env) (s : Shared) (H : Hp) (us : List Value) (vs : List V) (Q : VK), Room k A → Env0 P w K mg base A outer s H → C H → Vals vs us → sp vs H Q E0 → codeAny (model P w) A (.call (.ref f) ⟨us, []⟩) (CR CX0 outer P w H s Q E0) s
theorem fnAt_of {K : PySem.W.Frag} {f : Addr} {h : Heap} (X : K.In h) {o : Obj} {fd : FuncData} (l : K.lookup f = some o) (d : o.data = .func fd) : PySem.W.FnAt f h := by
  obtain ⟨oc, od, dt, sl⟩ := o
  cases d
  exact ⟨_, _, _, _, X _ _ l⟩
section
variable {X : Cx} {i k : Nat} {f : Addr} {C : Hp → Prop} {sp : Sp} {x : Str} {p pos : Pos} {e : Expr} {es : List Expr} {t : TA}
def tCallC (i : Nat) (f : Addr) (C : Hp → Prop) (sp : Sp) (t : TA) : TE := fun σ H Q => σ[i]? = some (some (.ref f)) ∧ C H ∧ t σ H fun vs H1 => C H1 ∧ sp vs H1 Q E0
theorem pe_callC (F : Callee X.prog X.w X.K X.mg X.base k f C sp) (hr : Room k X.A) (hN : X.N[i]? = some x) (hv : Vis X.env.scope x) (ha : PA X (e :: es) t)
    (hdb : (x == ("__debug__" : Str)) = false := by decide) (hcd : (x == ("__classdict__" : Str)) = false := by decide)
    (he : starEach (e :: es) X.env = (false, eval e X.env) :: starEach es X.env := by rfl) (hpl : (backTo pos (starEach es X.env)).any (·.1) = false := by rfl) : PE X (.Call (.Name x p) (e :: es) [] pos) (tCallC i f C sp t) := by
  refine ⟨fun pins s σ H Q I h => ?_⟩
  obtain ⟨hs, hC, ht⟩ := h
  refine wpAny_Call_Name_kw (thn ((pe_var (pos := p) hN hv hdb hcd).run pins s σ H (fun v H1 => v = .ref f ∧ H1 = H) I ⟨.ref f, hs, rfl, rfl⟩) fun u s1 ⟨v, H1, I1, r1, q1⟩ => ?_)
  obtain ⟨rfl, rfl⟩ := q1
  cases r1
  refine PySem.W.callWith_F (F.fn H1 s1.heap I1.kIn I1.hok hC) (thn (ha.run pos pins s1 σ _ _ I1 ht) fun us s2 ⟨vs, H2, I2, r, q⟩ => ⟨F.fn H2 s2.heap I2.kIn I2.hok q.1, ?_⟩) he hpl
  refine wpAny_call (codeAny_mono (F.run X.A X.stack s2 H2 us vs Q hr I2.env0 q.1 r q.2) fun r s' hq => ?_)
  cases r with
  | error e => exact (show False from hq).elim
  | ok fl =>
    cases fl with
    | ret u => exact I2.after hq
    | next => exact False.elim hq
    | brk => exact False.elim hq
    | cont => exact False.elim hq
end
section
variable {P : Program} {w : World} {K : PySem.W.Frag} {mg : Str → Option Value} {base : Heap}
theorem callee_of {k : Nat} {x : Str} {ps : List Str} {sp : Sp} (c : CallOk P w K mg base k x ps [] sp) (hf : ∃ o fd, K.lookup (He.ga K x) = some o ∧ o.data = .func fd) (hg : mg x = some (.ref (He.ga K x))) : Callee P w K mg base k (He.ga K x) (fun _ => True) sp := by
  obtain ⟨f, fd, ds, F, hm, hk, hb, hd⟩ := c.ex
  have ef : f = He.ga K x := by
    have e := hm.symm.trans hg
    cases e
    rfl
  subst ef
  have ed : ds = [] := by
    cases hd
    rfl
  subst ed
  refine ⟨fun _ _ h _ => h, fun H h X _ _ => ?_, fun A outer s H us vs Q hr e0 _ r h => ?_⟩
  · obtain ⟨o, fd2, l, d⟩ := hf
    exact fnAt_of X l d
  · have KX : K.In s.heap := e0.mod.kin.keeps fun b o e => (e0.bs b o e).1
    have hl : us.length = ps.length := by rw [← r.length]; exact F.len _ _ _ _ h
    have b := hb s us KX (by rw [List.append_nil]; exact hl)
    rw [List.append_nil] at b
    exact F.run A outer s H ⟨us, []⟩ us vs Q E0 hr e0 b r h
def LamO (f : Addr) (q : Str) (params : Arguments) (body : Expr) (scope : Scope) (pm : Value) (c' : Addr) (ctv : Value) : HO := .ext fun h => h.get? f = some (PySem.W.kla_obj "<lambda>" q params body scope [] pm c' ctv)
def LamAt (H : Hp) (f c' : Addr) (q : Str) (params : Arguments) (body : Expr) (scope : Scope) : Prop := (∃ pm ctv, H f = some (LamO f q params body scope pm c' ctv)) ∧ H c' = some (LamX.CodeO c' q)
theorem callee_lam {k : Nat} {f c' : Addr} {q : Str} {params : Arguments} {body : Expr} {scope : Scope} {N ps : List Str} {sp : Sp} (S : FnScope N ps scope) (len : ∀ vs H Q E, sp vs H Q E → vs.length = ps.length)
    (hb : ∀ (pm cv ctv : Value) (us : List Value), us.length = ps.length → bindArgs (PySem.W.kla_fn "<lambda>" q params body scope [] pm cv ctv) ⟨us, []⟩ = pure (ps.zip us))
    (hbody : ∀ (A : Around) (outer : List Env) (s : Shared) (H : Hp) (vs : List V) (Q : VK), Room k (A.deeper (envOfC q scope s.heap.objs.size f (.ref c'))) → sp vs H Q E0 →
      ∃ te, PE (cxOf CX0 P w K mg base N q scope f (.ref c') A outer s H E0).nox body te ∧ te (L2.start N vs) H Q) :
    Callee P w K mg base (k + 1) f (fun H => LamAt H f c' q params body scope) sp := by
  refine ⟨fun H H' ⟨⟨pm, ctv, h1⟩, h2⟩ sm => ⟨⟨pm, ctv, sm _ _ h1⟩, sm _ _ h2⟩, fun H h X ok ⟨⟨pm, ctv, h1⟩, h2⟩ => ?_, fun A outer s H us vs Q hr e0 hC r h => ?_⟩
  · obtain ⟨e, _, _⟩ := ok f _ h1
    exact ⟨_, _, _, _, e⟩
  · obtain ⟨⟨pm, ctv, h1⟩, h2⟩ := hC
    obtain ⟨of1, _, _⟩ := e0.hok f _ h1
    obtain ⟨⟨oc, vc, t, hoc, hdc, hvc⟩, _, _⟩ := e0.hok c' _ h2
    have hl := len _ _ _ _ h
    have lim : s.heap.NoLimit := e0.mod.nolimit.keeps fun b o e => (e0.bs b o e).1
    have hkind : ∀ y ∈ ps.zip us, scope.names.lookup y.1 = some .local ∨ (scope.names.lookup y.1 = some .cell ∧ ((cellsFrom (s.heap.objs.size + 1) scope.names []).lookup y.1).isSome = true) := fun ⟨n, v⟩ hy => by
      rcases S.par n (List.of_mem_zip hy).1 with q | q
      · exact .inl q
      · exact .inr ⟨q, PySem.W.cellsFrom_some _ _ _ (.inl q)⟩
    refine PySem.W.kla_callFunE hr.depth of1 rfl S.co S.gen rfl ⟨c', oc, vc, t, rfl, hoc, hdc, hvc⟩ ?_
    rw [hb pm (.ref c') ctv us (by rw [← r.length]; exact hl)]
    refine wpAny_pure (wpAny_newFunctionEnv_cells S.kind hkind fun env he s1 x => ?_)
    subst he
    refine ⟨lim.keeps x.toInCall.keep, PySem.W.kla_codeExpr ?_⟩
    obtain ⟨te, hte, hq⟩ := hbody A outer s H vs Q (hr.deeper _) h
    have I : Inv (cxOf CX0 P w K mg base N q scope f (.ref c') A outer s H E0) [] (L2.start N vs) H s1 := inv_start S hr.hd e0 hl r x
    refine wpAny_mono (hte.nox.run [] s1 (L2.start N vs) H Q I hq) (fun v s' hs => ?_) fun e s' hs => hs
    obtain ⟨v', H', J, rv, q'⟩ := hs
    exact ⟨v', H', J.os, J.bare, J.base, J.hok, rv, q'⟩
end
theorem cloFrom_nil {cells : List (Str × Addr)} : ∀ {names : List (Str × NameKind)} {acc : List (Str × Addr)}, (∀ y ∈ names, y.2 ≠ .free) → cloFrom cells names acc = acc
  | [], _, _ => rfl
  | (n, k) :: r, acc, h => by
    have hk : ¬ (k == NameKind.free) = true := fun z => h (n, k) List.mem_cons_self (by simpa using z)
    unfold cloFrom
    rw [if_neg hk]
    exact cloFrom_nil fun y hy => h y (List.mem_cons_of_mem _ hy)
section
variable {X : Cx}
def tLamV (P : Addr) (q : Str) (params : Arguments) (body : Expr) (scope : Scope) : TE := fun _ H Q => LamX.TabS H P q ∧ ∀ (f c' : Addr) (H1 : Hp), But1 P H H1 → LamX.TabS H1 P q → LamAt H1 f c' q params body scope → Q (.ref f) H1
theorem pe_lamV {c P : Addr} {params : Arguments} {body : Expr} {scope : Scope} {pos : Pos} (TB : LamX.TabB X.base X.mg c P) (hcode : X.env.code = .ref c) (hdef : defaultsOf params X.env = ([], [])) (hfree : ∀ y ∈ scope.names, y.2 ≠ .free) :
    PE X (.Lambda params body scope pos) (tLamV P (X.env.qual ++ "<lambda>") params body scope) := by
  refine ⟨fun pins s σ H Q I h => ?_⟩
  obtain ⟨hT, h⟩ := h
  obtain ⟨ps, hP, ht, ha⟩ := hT
  refine PySem.W.kla_eval hdef ?_
  have ecl : closureFor scope X.env = pure [] := by
    have e := closure_ok (scope := scope) (env := X.env) fun y hy z => absurd z (hfree y hy)
    rw [cloFrom_nil hfree] at e
    exact e
  have bP : s.heap.BuiltinsAt X.mg P := TB.bm.keeps I.bk
  have hP' : s.heap.get? P = some { cls := .none, data := .fields ps } := I.hok P _ hP
  have lamOk : ∀ {H1 : Hp} {h1 : Heap} {pm ctv : Value} {c' : Addr}, ObjOk X.prog X.w (upd H1 h1.objs.size (LamO h1.objs.size (X.env.qual ++ "<lambda>") params body scope pm c' ctv)) (h1.push (PySem.W.kla_obj "<lambda>" (X.env.qual ++ "<lambda>") params body scope [] pm c' ctv)) h1.objs.size
      (LamO h1.objs.size (X.env.qual ++ "<lambda>") params body scope pm c' ctv) := ⟨Heap.get?_push_size _ rfl, ⟨_, Heap.get?_push_size _ rfl⟩, fun h1 h2 e st => st _ e⟩
  cases hc : codeAmong pos ps.toList with
  | none =>
    refine PySem.W.kla_makeFunction (mg := X.mg) (c := c) (P := P) (ps := ps) ecl I.ok.glob (I.mod.glob.keeps I.bk) hcode (TB.code.keeps I.bk) hP' ht hc TB.gP bP fun c' ctv h' tk hx hge hlt hrec htb => ?_
    obtain ⟨c2, oc, vs, t, e2, hoc, hd, hv⟩ := hrec
    cases e2
    have nC : H c' = none := I.hok.fresh hge
    have I1 := LamX.inv_table (t' := tk) (more := #[rawInt pos.line, rawInt pos.col, .ref c']) (h' := h') I hP hx htb hge ⟨oc, vs, t, hoc, hd, hv⟩
    have nf := I1.hok.fresh (Nat.le_refl _)
    have I2 := I1.laid (a := h'.objs.size) (o := LamO h'.objs.size (X.env.qual ++ "<lambda>") params body scope ((X.mg "__name__").getD .none) c' ctv)
      (h' := h'.push (PySem.W.kla_obj "<lambda>" (X.env.qual ++ "<lambda>") params body scope [] ((X.mg "__name__").getD .none) c' ctv)) (t' := tk) (fun b u e => Heap.get?_push_of_some _ e) (Nat.le_refl _) lamOk
    have hE : LamX.ExtN H (upd (upd H P (.tbl (ps ++ #[rawInt pos.line, rawInt pos.col, .ref c']))) c' (LamX.CodeO c' (X.env.qual ++ "<lambda>"))) := fun b o e n => by
      rw [upd_ne (ne_of_none e nC), upd_ne (fun z => n ps (Option.some.inj (e.symm.trans (by rw [z]; exact hP))))]
      exact e
    have hB : But1 P H (upd (upd H P (.tbl (ps ++ #[rawInt pos.line, rawInt pos.col, .ref c']))) c' (LamX.CodeO c' (X.env.qual ++ "<lambda>"))) := But.upd_free (but1_upd but_refl) nC
    have eL : (ps ++ #[rawInt pos.line, rawInt pos.col, .ref c']).toList = ps.toList ++ [rawInt pos.line, rawInt pos.col, .ref c'] := by simp
    have hTab : LamX.TabS (upd (upd H P (.tbl (ps ++ #[rawInt pos.line, rawInt pos.col, .ref c']))) c' (LamX.CodeO c' (X.env.qual ++ "<lambda>"))) P (X.env.qual ++ "<lambda>") :=
      ⟨_, by rw [upd_ne (ne_of_none hP nC), upd_same], by rw [eL]; exact PySem.TriplesOk_snoc _ _ _ _ ht, fun p' cv hcv => by
        rw [eL] at hcv
        rcases LamX.among_app _ ht hcv with z | z
        · obtain ⟨c0, e1, e2⟩ := ha p' cv z
          exact ⟨c0, e1, hE _ _ e2 LamX.codeO_ne⟩
        · exact ⟨c', z, upd_same⟩⟩
    have sm := same_new (o := LamO h'.objs.size (X.env.qual ++ "<lambda>") params body scope ((X.mg "__name__").getD .none) c' ctv) nf
    exact ⟨.ref h'.objs.size, _, I2, rfl, h _ c' _ (hB.trans (but_same sm)) (hTab.ext sm) ⟨⟨_, _, upd_same⟩, sm _ _ upd_same⟩⟩
  | some cv =>
    obtain ⟨c', e, hco⟩ := ha pos cv hc
    subst e
    refine PySem.W.kla_makeFunctionHit (mg := X.mg) (c := c) (P := P) (ps := ps) ecl I.ok.glob (I.mod.glob.keeps I.bk) hcode (TB.code.keeps I.bk) hP' ht hc bP fun ctv h' tk hx hsz => ?_
    have I1 : Inv X pins σ H { s with heap := h', toks := tk } := I.kept hx
    have nf := I1.hok.fresh (Nat.le_refl _)
    have I2 := I1.laid (a := h'.objs.size) (o := LamO h'.objs.size (X.env.qual ++ "<lambda>") params body scope ((X.mg "__name__").getD .none) c' ctv)
      (h' := h'.push (PySem.W.kla_obj "<lambda>" (X.env.qual ++ "<lambda>") params body scope [] ((X.mg "__name__").getD .none) c' ctv)) (t' := tk) (fun b u e => Heap.get?_push_of_some _ e) (Nat.le_refl _) lamOk
    have sm := same_new (o := LamO h'.objs.size (X.env.qual ++ "<lambda>") params body scope ((X.mg "__name__").getD .none) c' ctv) nf
    have hTab : LamX.TabS H P (X.env.qual ++ "<lambda>") := ⟨ps, hP, ht, ha⟩
    exact ⟨.ref h'.objs.size, _, I2, rfl, h _ c' _ (but_same sm) (hTab.ext sm) ⟨⟨_, _, upd_same⟩, sm _ _ hco⟩⟩
end
end Lv
set_option maxHeartbeats 4000000
namespace Lv
open PySem PySem.Spec PyProof.Rows L2
section
variable {P : Program} {w : World} {K : PySem.W.Frag} {mg : Str → Option Value} {base : Heap}
def sp_are_all (P : Program) (w : World) (K : PySem.W.Frag) (mg : Str → Option Value) (base : Heap) : Sp := sp2 fun rows g H Q => ∃ (a : Addr) (xs : List V) (f : Addr) (C : Hp → Prop) (sp : Sp), rows = .ref a ∧ H a = some (.tup xs) ∧ g = .ref f ∧ Callee P w K mg base 6 f C sp ∧ C H ∧
  (∀ v ∈ xs, ∀ (H1 : Hp) (Q1 : VK), Same H H1 → (∀ H2, Same H1 H2 → Q1 (.bl true) H2) → sp [v] H1 Q1 E0) ∧ xs.length ≤ 1000 ∧ ∀ H', Same H H' → Q (.bl true) H'
abbrev N_are_all : List Str := ["rows", "is_one", "row"]
theorem sc_are_all : FnScope N_are_all ["rows", "is_one"] (defScope s_are_all) := ⟨rfl, rfl, rfl, by decide +kernel, rfl, by decide +kernel, by decide +kernel⟩
theorem ok_are_all (T : Txt K mg) : CallOk P w K mg base 7 "are_all" ["rows", "is_one"] [] (sp_are_all P w K mg base) := by
  refine call_ok T 10 T.g_are_all sc_are_all (fun vs H Q E h => ?_) (fun f cdv A outer s H vs Q E hr h => ?_) (fun _ _ _ _ _ _ us hl => match us, hl with | [_, _], _ => rfl)
  · obtain ⟨x0, x1, rfl, _⟩ := h
    rfl
  · have nd := sc_are_all.nd
    have hu := hu_of hr
    have hu64 := hu64_of hr
    have c_is_listed := ok_is_listed (P := P) (w := w) (base := base) T
    obtain ⟨x0, x1, rfl, h⟩ := h
    obtain ⟨a, xs, f', C, sp, rfl, e, rfl, F_is_one, hC, hsp, hl, q⟩ := h
    refine ⟨_, (pss_one (ps_ret (pe_and (pe_callO c_is_listed (hr.mono (by first | decide | omega)) (pa_cons (pv 0) pa_nil)) (pe_one (pe_callB (allK (K := K)) (by rfl) T.b_all boot_all (pa_cons (pe_lc (own := [("row", 2)]) (g := (gName 2)) (tt := tYes) rfl nd (pi_tup (pv 0)) (blkOk_by (own := [("row", 2)]) (N := N_are_all) (sc := defScope s_are_all) (by decide +kernel)) (fun _ _ _ _ _ => (pg_name (i := 2) nd rfl (Or.inl rfl))) (fun _ _ _ _ _ => pts_nil) (fun _ _ _ _ _ => (pe_callC (i := 1) F_is_one (hr.mono (by first | decide | omega)) rfl (by first | exact Or.inl rfl | exact Or.inr (Or.inl rfl) | exact Or.inr (Or.inr rfl)) (pa_cons (pv 2) pa_nil)))) pa_nil)))))), ?_⟩
    refine ⟨_, rfl, _, rfl, a, rfl, .inl ⟨_, e⟩, fun H1 s1 => ⟨_, rfl, iteT ?_⟩⟩
    have e1 := s1 _ _ e
    refine ⟨_, rfl, a, rfl, ⟨xs, SqT.of e1⟩, fun D hD => lc_rel walk_tup (RF fun _ => .bl true) hD (fun H2 s => SqT.of (s _ _ e1)) rfl ?_ ?_⟩
    · rintro i x l H2 H3 hi hl2 s e2 r ⟨rfl, hx2⟩
      refine ⟨rfl, ?_⟩
      have s13 := s1.trans s
      have hC2 := F_is_one.keep _ _ hC s13
      exact ⟨rfl, hC2, _, rfl, hC2, hsp x (List.mem_of_getElem? hx2) H3 _ s13 fun H4 s4 => lc_takeF hD (Nat.lt_of_lt_of_le (show i < 1001 by omega) (by decide)) hl2 (s.trans s4) (s4 _ _ e2) r rfl⟩
    · intro l H2 hl2 s e2 r
      have r : l = _ := r
      refine ⟨D, (List.range xs.length).map fun _ => true, rfl, SqL.of ?_, ?_⟩
      · rw [e2, r]
        simp [List.map_map, Function.comp_def]
      · have e3 : ((List.range xs.length).map fun _ => true).all id = true := by simp
        rw [e3]
        exact q _ (s1.trans s)
end
end Lv
set_option maxHeartbeats 4000000
namespace Lv
open PySem PySem.Spec PyProof.Rows L2
section
variable {X : Cx} {K : PySem.W.Frag} {tg l : Expr} {tl : TE}
theorem pi_seq (hl : PE X l tl) (hK : X.K = K := by rfl) : PI X tg l (fun σ H R => tl σ H fun x H1 => ∃ a, x = .ref a ∧ (((∃ xs, SqL K H1 a xs) ∧ R (Itl K a) H1) ∨ ((∃ xs, SqT K H1 a xs) ∧ R (Itt K a) H1))) := by
  subst hK
  refine ⟨fun pins s σ H R I h => ?_⟩
  refine thn (hl.run pins s σ H _ I h) fun v s1 ⟨x, H1, I1, r1, q1⟩ => ?_
  obtain ⟨a, e, q1⟩ := q1
  subst e
  cases r1
  rcases q1 with ⟨⟨xs, hq⟩, q⟩ | ⟨⟨xs, hq⟩, q⟩
  · obtain ⟨its, rv, p, hz⟩ := I1.list hq
    refine wpAny_pyIter_list p.isList ?_
    refine ⟨s1.heap.objs.size, [s1.heap.objs.size], _, _, H1, rfl, I1.kept (t' := s1.toks) fun b o e => Heap.get?_push_of_some _ e, turn_list a _, ⟨_, Heap.get?_push_size _ rfl, rfl, rfl⟩, fun b hb => ?_, q⟩
    have e : b = s1.heap.objs.size := by simpa using hb
    subst e
    exact I1.fpOk (Nat.le_refl _) (I1.hok.fresh (Nat.le_refl _))
  · obtain ⟨its, rv, p, hz⟩ := I1.tuple hq
    refine wpAny_pyIter_tuple (show s1.heap.IsTuple a its.toArray from p) ?_
    refine ⟨s1.heap.objs.size, [s1.heap.objs.size], _, _, H1, rfl, I1.kept (t' := s1.toks) fun b o e => Heap.get?_push_of_some _ e, turn_tuple a _, ⟨_, Heap.get?_push_size _ rfl, rfl, rfl⟩, fun b hb => ?_, q⟩
    have e : b = s1.heap.objs.size := by simpa using hb
    subst e
    exact I1.fpOk (Nat.le_refl _) (I1.hok.fresh (Nat.le_refl _))
end
section
variable {K : PySem.W.Frag} {a b : Addr} {xs ys : List V}
theorem walk_zipT {n : Nat} (hn : n = min xs.length ys.length) : Walk (RZ.ItzT K a b) n (fun H => SqT K H a xs ∧ SqT K H b ys) (YPair (fun i => xs[i]?) (fun i => ys[i]?)) := by
  subst hn
  refine ⟨fun i _ hi q => ?_, fun _ q => ⟨xs, ys, q.1, q.2, by omega⟩, fun i H v H' _ q y => ?_⟩
  · have h1 : i < xs.length := by omega
    have h2 : i < ys.length := by omega
    exact ⟨xs, ys, xs[i], ys[i], q.1, q.2, by simp [h1], by simp [h2]⟩
  · obtain ⟨T, x, z, h1, h2, h3, h4, h5⟩ := y
    exact ⟨T, x, z, h1, h2, h3, h4 xs q.1, h5 ys q.2⟩
end
section
variable {J : It} {n : Nat} {G : Hp → Prop} {Y : Nat → Hp → V → Hp → Prop}
theorem dc_it (w : Walk J n G Y) {g : TG} {tt : TT} {tk tv : TE} {vs : List Nat} {σ : L2.St} {H1 : Hp} {D : Addr} {Qd : Hp → Prop} (Pv : Nat → Hp → Prop) (h0 : Pv 0 (upd H1 D (.dK []))) (hG : ∀ i H, i ≤ n → Pv i H → G H)
    (hs : ∀ i x H H', i < n → Pv i H → Y i H x H' → g x (wipe σ vs) H' fun σ2 H2 => wipe σ2 vs = wipe σ vs ∧ tt σ2 H2 fun b H3 =>
      if b = true then tk σ2 H3 fun y H4 => tv σ2 H4 fun z H5 => ∃ kvs k, y = kV k ∧ H5 D = some (.dK kvs) ∧ kvs.length < sizeLine ∧ Pv (i + 1) (upd H5 D (.dK (putK kvs k z))) else Pv (i + 1) H3) (hd : ∀ H, Pv n H → Qd H) :
    ∃ W : Nat → Nat → Hp → Prop, (∃ m, W 0 m (upd H1 D (.dK []))) ∧ ∀ i m H, W i m H →
      (J.stop i H ∧ Qd H) ∨ (J.go i H ∧ ∃ Nx : Hp → Prop, (∀ H', Nx H' → ∃ m', m' < m ∧ W (i + 1) m' H') ∧ ∀ x H', J.yld i H x H' → g x (wipe σ vs) H' fun σ2 H2 => wipe σ2 vs = wipe σ vs ∧ tt σ2 H2 fun b H3 =>
        if b = true then tk σ2 H3 fun y H4 => tv σ2 H4 fun z H5 => ∃ kvs k, y = kV k ∧ H5 D = some (.dK kvs) ∧ kvs.length < sizeLine ∧ Nx (upd H5 D (.dK (putK kvs k z))) else Nx H3) := by
  refine ⟨fun i m H => m = n - i ∧ i ≤ n ∧ Pv i H, ⟨n, by simp, Nat.zero_le _, h0⟩, ?_⟩
  rintro i m H ⟨rfl, hi, p⟩
  have q := hG i H hi p
  by_cases hlt : i < n
  · refine .inr ⟨w.goes i H hlt q, Pv (i + 1), fun H' p' => ⟨n - (i + 1), by omega, rfl, hlt, p'⟩, fun x H' y => hs i x H H' hlt p (w.yields i H x H' hlt q y)⟩
  · have e : i = n := by omega
    subst e
    exact .inl ⟨w.stops H q, hd H p⟩
def DcI (H1 : Hp) (D : Addr) (R : Nat → List (Key × V) → Hp → Prop) (i : Nat) (H : Hp) : Prop := ∃ kvs : List (Key × V), kvs.length ≤ i ∧ Same H1 H ∧ H D = some (.dK kvs) ∧ R i kvs H
theorem dc_rel (wk : Walk J n G Y) {g : TG} {tt : TT} {tk tv : TE} {vs : List Nat} {σ : L2.St} {H1 : Hp} {D : Addr} {Qd : Hp → Prop} (R : Nat → List (Key × V) → Hp → Prop) (hD : H1 D = none) (hG : ∀ H, Same H1 H → G H)
    (h0 : R 0 [] (upd H1 D (.dK [])))
    (hs : ∀ i x l H H', i < n → l.length ≤ i → Same H1 H → H D = some (.dK l) → R i l H → Y i H x H' → g x (wipe σ vs) H' fun σ2 H2 => wipe σ2 vs = wipe σ vs ∧ tt σ2 H2 fun b H3 =>
      if b = true then tk σ2 H3 fun y H4 => tv σ2 H4 fun z H5 => ∃ kvs k, y = kV k ∧ H5 D = some (.dK kvs) ∧ kvs.length < sizeLine ∧ DcI H1 D R (i + 1) (upd H5 D (.dK (putK kvs k z))) else DcI H1 D R (i + 1) H3)
    (hd : ∀ l H, l.length ≤ n → Same H1 H → H D = some (.dK l) → R n l H → Qd H) :
    ∃ W : Nat → Nat → Hp → Prop, (∃ m, W 0 m (upd H1 D (.dK []))) ∧ ∀ i m H, W i m H →
      (J.stop i H ∧ Qd H) ∨ (J.go i H ∧ ∃ Nx : Hp → Prop, (∀ H', Nx H' → ∃ m', m' < m ∧ W (i + 1) m' H') ∧ ∀ x H', J.yld i H x H' → g x (wipe σ vs) H' fun σ2 H2 => wipe σ2 vs = wipe σ vs ∧ tt σ2 H2 fun b H3 =>
        if b = true then tk σ2 H3 fun y H4 => tv σ2 H4 fun z H5 => ∃ kvs k, y = kV k ∧ H5 D = some (.dK kvs) ∧ kvs.length < sizeLine ∧ Nx (upd H5 D (.dK (putK kvs k z))) else Nx H3) :=
  dc_it wk (DcI H1 D R) ⟨[], Nat.le_refl _, same_new hD, upd_same, h0⟩ (fun _ H _ ⟨_, _, s, _⟩ => hG H s) (fun i x H H' hi ⟨l, hl, s, e, r⟩ y => hs i x l H H' hi hl s e r y) fun H ⟨l, hl, s, e, r⟩ => hd l H hl s e r
theorem dc_put {H1 H5 : Hp} {D : Addr} {R : Nat → List (Key × V) → Hp → Prop} {i : Nat} {l : List (Key × V)} {k : Key} {z : V} (hD : H1 D = none) (hz : i < sizeLine) (hl : l.length ≤ i) (s : Same H1 H5) (e : H5 D = some (.dK l)) (r : R (i + 1) (putK l k z) (upd H5 D (.dK (putK l k z)))) :
    ∃ kvs k', kV k = kV k' ∧ H5 D = some (.dK kvs) ∧ kvs.length < sizeLine ∧ DcI H1 D R (i + 1) (upd H5 D (.dK (putK kvs k' z))) :=
  ⟨l, k, rfl, e, by omega, putK l k z, Nat.le_trans (length_putK l k z) (by omega), same_upd s hD, upd_same, r⟩
end
theorem putK_map {zs : List Str} {z : Str} {f : Str → V} (h : z ∉ zs) : putK (zs.map fun y => ((Sum.inr y : Key), f y)) (Sum.inr z) (f z) = (zs ++ [z]).map fun y => ((Sum.inr y : Key), f y) := by
  have e : valV (zs.map fun y => ((Sum.inr y : Key), f y)) (Sum.inr z : Key) = none := by
    unfold valV
    rw [List.find?_map]
    have e2 : zs.find? ((fun kv : Key × V => decide (kv.1 = Sum.inr z)) ∘ fun y => ((Sum.inr y : Key), f y)) = none := by
      rw [List.find?_eq_none]
      intro y hy
      simp only [Function.comp, decide_eq_true_eq, Sum.inr.injEq]
      intro e
      rw [e] at hy
      exact h hy
    rw [e2]
    rfl
  rw [putK_new _ e, List.map_append]
  rfl
end Lv
set_option maxHeartbeats 4000000
namespace Lv
open PySem PySem.Spec PyProof.Rows L2
theorem take_snoc {α : Type} {xs : List α} {i : Nat} {x : α} (h : xs[i]? = some x) : xs.take (i + 1) = xs.take i ++ [x] := by simp [List.take_add_one, h]
def DtOk : Nat → Dt → Prop
  | 0, _ => False
  | n + 1, .tup l => l.length ≤ 1000 ∧ ∀ x ∈ l, DtOk n x
  | _ + 1, _ => True
section
variable {P : Program} {w : World} {K : PySem.W.Frag} {mg : Str → Option Value} {base : Heap}
theorem call_false {k : Nat} {x : Str} {st : Stmt} {ps : List Str} (T : Txt K mg) (i : Nat) (hg : mg x = some (.ref (He.ga K x)))
    (hb : ∀ (kV doc pm : Value) (an : Option Addr) (cdv ct : Value) (us : List Value), us.length = ps.length → bindArgs (PySem.W.fnOf x x (defArgs st) (defBody st) (defScope st) .none kV doc pm an cdv ct) ⟨us, []⟩ = pure (ps.zip us))
    (e : fn[i]? = some (mkD (x, none) x x st []) := by rfl) {sp : Sp} (h : ∀ vs H Q E, ¬ sp vs H Q E) : CallOk P w K mg base k x ps [] sp := by
  obtain ⟨fd, F⟩ := T.d.def_ i e
  have F' : FunD K x x (defArgs st) (defBody st) (defScope st) [] [] (He.ga K x) fd := F
  exact ⟨He.ga K x, fd, [], ⟨fun vs H Q E z => (h vs H Q E z).elim, fun A outer s H args us vs Q E _ _ _ _ z => (h vs H Q E z).elim⟩, hg, F'.kp, F'.bindsN hb, .nil⟩
def sp_as_tuples (n : Nat) : Sp := sp1 fun v H Q => ∃ d : Dt, Tv H d v ∧ DtOk n d ∧ ∀ H' v', Same H H' → Tv H' d v' → Q v' H'
abbrev N_as_tuples : List Str := ["value", "part"]
theorem sc_as_tuples : FnScope N_as_tuples ["value"] (defScope s_as_tuples) := ⟨rfl, rfl, rfl, by decide +kernel, rfl, by decide +kernel, by decide +kernel⟩
theorem ok_as_tuples (T : Txt K mg) : ∀ n : Nat, CallOk P w K mg base (n + 1) "as_tuples" ["value"] [] (sp_as_tuples n)
  | 0 => call_false (st := s_as_tuples) T 2 T.g_as_tuples (fun _ _ _ _ _ _ us hl => match us, hl with | [_], _ => rfl) (h := fun vs H Q E ⟨_, _, _, _, h, _⟩ => h)
  | n + 1 => by
    have c_as_tuples := ok_as_tuples T n
    refine call_ok T 2 T.g_as_tuples sc_as_tuples (fun vs H Q E h => ?_) (fun f cdv A outer s H vs Q E hr h => ?_) (fun _ _ _ _ _ _ us hl => match us, hl with | [_], _ => rfl)
    · obtain ⟨_, rfl, _⟩ := h
      rfl
    · have nd := sc_as_tuples.nd
      have hu := hu_of hr
      obtain ⟨v, rfl, d, tv, ok, q⟩ := h
      refine ⟨_, (pss_cons (ps_if (pt_val (pe_callB (isiTK (K := K)) (by rfl) T.b_isinstance boot_isinstance (pa_cons (pv 0) (pa_cons (pe_tup (pa_cons (pe_gty T.b_tuple boot_tuple) (pa_cons (pe_gty T.b_list boot_list) pa_nil))) pa_nil)))) (pss_one (ps_ret (pe_callTy (tupleOfK (K := K)) (by rfl) T.b_tuple boot_tuple (pa_cons (pe_lc (own := [("part", 1)]) (g := (gName 1)) (tt := tYes) rfl nd (pi_seq (K := K) (pv 0)) (blkOk_by (own := [("part", 1)]) (N := N_as_tuples) (sc := defScope s_as_tuples) (by decide +kernel)) (fun _ _ _ _ _ => (pg_name (i := 1) nd rfl (Or.inl rfl))) (fun _ _ _ _ _ => pts_nil) (fun _ _ _ _ _ => (pe_callO c_as_tuples (hr.mono (by first | decide | omega)) (pa_cons (pv 1) pa_nil)))) pa_nil)))) pss_nil) (pss_one (ps_ret (pv 0)))), ?_⟩
      have s0 : ∀ t, H t = none → Same H (upd H t (.tup [.ty "tuple", .ty "list"])) := fun t ht => same_new ht
      cases d with
      | tup ds =>
        obtain ⟨a, xs, rfl, e, tr⟩ := tv
        obtain ⟨hl, okd⟩ := ok
        refine ⟨_, rfl, (by show 2 ≤ sizeLine; decide), fun t ht => ?_⟩
        have e1 := s0 t ht _ _ e
        refine ⟨_, t, _, .type "tuple", [.type "tuple", .type "list"], true, rfl, upd_same, .cons (.ty _) (.cons (.ty _) .nil), .base (.tup e1), rfl, _, rfl, iteT ?_⟩
        have hx := tr.length
        refine ⟨_, rfl, a, rfl, .inr ⟨⟨xs, SqT.of e1⟩, fun D hD => lc_rel walk_tup (fun i l H => TvAll H (ds.take i) l) hD (fun H2 s => SqT.of (s _ _ e1)) True.intro ?_ ?_⟩⟩
        · rintro i x l H2 H3 hi hl2 s e2 r ⟨rfl, hx2⟩
          refine ⟨rfl, ?_⟩
          obtain ⟨dx, hdx, tx⟩ := (tr.keep (tk_same ((s0 t ht).trans s))).get hx2
          refine ⟨_, rfl, _, rfl, dx, tx, okd dx (List.mem_of_getElem? hdx), fun H4 v' s4 tv' => lc_take hD (Nat.lt_of_lt_of_le (show i < 1001 by omega) (by decide)) hl2 (s.trans s4) (s4 _ _ e2) ?_⟩
          rw [take_snoc hdx]
          exact ((r.keep (tk_same s4)).app (TvAll.one tv')).keep (tk_mut (s4 _ _ e2) (by intro _ z; cases z))
        · intro l H2 hl2 s e2 r
          refine ⟨D, l, rfl, .inl ⟨SqL.of e2, fun p hp => ?_⟩⟩
          rw [List.take_of_length_le (Nat.le_of_eq hx)] at r
          exact q _ _ (((s0 t ht).trans s).trans (same_new hp)) (Tv.new hp r)
      | non =>
        obtain rfl : v = .non := tv
        refine ⟨_, rfl, (by show 2 ≤ sizeLine; decide), fun t ht => ?_⟩
        refine ⟨_, t, _, .type "NoneType", [.type "tuple", .type "list"], false, rfl, upd_same, .cons (.ty _) (.cons (.ty _) .nil), .base .non, kitAny_cons (b := false) (kit_ty k_non_tup) (fun _ => kitAny_cons (b := false) (kit_ty k_non_lst) (fun _ => rfl) (fun z => by cases z)) (fun z => by cases z), _, rfl, iteF ?_⟩
        exact ⟨_, rfl, q _ _ (s0 t ht) rfl⟩
      | int i =>
        obtain rfl : v = .int i := tv
        refine ⟨_, rfl, (by show 2 ≤ sizeLine; decide), fun t ht => ?_⟩
        refine ⟨_, t, _, .type "int", [.type "tuple", .type "list"], false, rfl, upd_same, .cons (.ty _) (.cons (.ty _) .nil), .base (.int i), kitAny_cons (b := false) (kit_ty k_int_tup) (fun _ => kitAny_cons (b := false) (kit_ty k_int_lst) (fun _ => rfl) (fun z => by cases z)) (fun z => by cases z), _, rfl, iteF ?_⟩
        exact ⟨_, rfl, q _ _ (s0 t ht) rfl⟩
      | str i =>
        obtain rfl : v = .str i := tv
        refine ⟨_, rfl, (by show 2 ≤ sizeLine; decide), fun t ht => ?_⟩
        refine ⟨_, t, _, .type "str", [.type "tuple", .type "list"], false, rfl, upd_same, .cons (.ty _) (.cons (.ty _) .nil), .base (.str i), kitAny_cons (b := false) (kit_ty k_str_tup) (fun _ => kitAny_cons (b := false) (kit_ty k_str_lst) (fun _ => rfl) (fun z => by cases z)) (fun z => by cases z), _, rfl, iteF ?_⟩
        exact ⟨_, rfl, q _ _ (s0 t ht) rfl⟩
      | bl i =>
        obtain rfl : v = .bl i := tv
        refine ⟨_, rfl, (by show 2 ≤ sizeLine; decide), fun t ht => ?_⟩
        refine ⟨_, t, _, .type "bool", [.type "tuple", .type "list"], false, rfl, upd_same, .cons (.ty _) (.cons (.ty _) .nil), .base (.bl i), kitAny_cons (b := false) (kit_ty k_bool_tup) (fun _ => kitAny_cons (b := false) (kit_ty k_bool_lst) (fun _ => rfl) (fun z => by cases z)) (fun z => by cases z), _, rfl, iteF ?_⟩
        exact ⟨_, rfl, q _ _ (s0 t ht) rfl⟩
def sp_are_unlike (K : PySem.W.Frag) : Sp := sp1 fun v H Q => ∃ (a : Addr) (zs : List Str), v = .ref a ∧ (H a = some (.lst (zs.map V.str)) ∨ H a = some (.tup (zs.map V.str))) ∧ zs.Nodup ∧ zs.length ≤ 1000 ∧ ∀ H', Same H H' → Q (.bl true) H'
abbrev N_are_unlike : List Str := ["names", "name"]
theorem sc_are_unlike : FnScope N_are_unlike ["names"] (defScope s_are_unlike) := ⟨rfl, rfl, rfl, by decide +kernel, rfl, by decide +kernel, by decide +kernel⟩
theorem ok_are_unlike (T : Txt K mg) : CallOk P w K mg base 1 "are_unlike" ["names"] [] (sp_are_unlike K) := by
  refine call_ok T 11 T.g_are_unlike sc_are_unlike (fun vs H Q E h => ?_) (fun f cdv A outer s H vs Q E hr h => ?_) (fun _ _ _ _ _ _ us hl => match us, hl with | [_], _ => rfl)
  · obtain ⟨x0, rfl, _⟩ := h
    rfl
  · have nd := sc_are_unlike.nd
    have hu := hu_of hr
    have hu64 := hu64_of hr
    obtain ⟨x0, rfl, h⟩ := h
    refine ⟨_, (pss_one (ps_ret (pe_cmpR op_eq (pe_callB call_lenD (by rfl) T.b_len boot_len (pa_cons (pe_dc (own := [("name", 1)]) (g := (gName 1)) (tt := tYes) rfl nd (pi_seq (K := K) (pv 0)) (blkOk_by (own := [("name", 1)]) (N := N_are_unlike) (sc := defScope s_are_unlike) (by decide +kernel)) (fun _ _ _ _ _ => (pg_name (i := 1) nd rfl (Or.inl rfl))) (fun _ _ _ _ _ => pts_nil) (fun _ _ _ _ _ => (pv 1)) (fun _ _ _ _ _ => pe_bl)) pa_nil)) (pe_callB (lenSK (K := K)) (by rfl) T.b_len boot_len (pa_cons (pv 0) pa_nil)) (nomark _)))), ?_⟩
    obtain ⟨a, zs, rfl, e, nz, hl, q⟩ := h
    have step : ∀ (D : Addr) (hD : H D = none) (i : Nat) (x : V) (l : List (Key × V)) (H2 : Hp), i < (zs.map V.str).length → l.length ≤ i → Same H H2 → H2 D = some (.dK l) → l = (zs.take i).map (fun y => ((Sum.inr y : Key), V.bl true)) → (zs.map V.str)[i]? = some x →
        ∃ kvs k', x = kV k' ∧ H2 D = some (.dK kvs) ∧ kvs.length < sizeLine ∧ DcI H D (fun i l _ => l = (zs.take i).map (fun y => ((Sum.inr y : Key), V.bl true))) (i + 1) (upd H2 D (.dK (putK kvs k' (.bl true)))) := fun D hD i x l H2 hi hl2 s e2 r hx => by
      rw [List.getElem?_map] at hx
      cases hz : zs[i]? with
      | none =>
        rw [hz] at hx
        cases hx
      | some z =>
        rw [hz] at hx
        cases hx
        rw [List.length_map] at hi
        have r2 : putK l (Sum.inr z) (V.bl true) = (zs.take (i + 1)).map (fun y => ((Sum.inr y : Key), V.bl true)) := by
          rw [r, take_snoc hz]
          refine putK_map (f := fun _ => V.bl true) fun hm => ?_
          obtain ⟨hi2, ez⟩ := List.getElem?_eq_some_iff.mp hz
          have nz2 := nz
          rw [← List.take_append_drop i zs] at nz2
          have hd : z ∈ zs.drop i := by
            rw [← ez]
            exact List.mem_drop_iff_getElem.mpr ⟨0, by omega, by simp⟩
          exact (List.nodup_append.mp nz2).2.2 z hm z hd rfl
        exact dc_put (k := Sum.inr z) hD (Nat.lt_of_lt_of_le (show i < 1001 by omega) (by decide)) hl2 s e2 r2
    rcases e with e | e
    · refine ⟨_, rfl, a, rfl, .inl ⟨⟨_, SqL.of e⟩, fun D hD => dc_rel walk_list (fun i l _ => l = (zs.take i).map (fun y => ((Sum.inr y : Key), V.bl true))) hD (fun H2 s => SqL.of (s _ _ e)) rfl ?_ ?_⟩⟩
      · rintro i x l H2 H3 hi hl2 s e2 r ⟨rfl, hx⟩
        exact ⟨rfl, _, rfl, step D hD i x l H3 hi hl2 s e2 r hx⟩
      · intro l H2 hl2 s e2 r
        rw [List.length_map, List.take_of_length_le (Nat.le_refl _)] at r
        subst r
        refine ⟨D, _, rfl, e2, _, rfl, a, _, rfl, .inl (SqL.of (s _ _ e)), rfl, ?_⟩
        rw [decide_eq_true (by simp)]
        exact q _ s
    · refine ⟨_, rfl, a, rfl, .inr ⟨⟨_, SqT.of e⟩, fun D hD => dc_rel walk_tup (fun i l _ => l = (zs.take i).map (fun y => ((Sum.inr y : Key), V.bl true))) hD (fun H2 s => SqT.of (s _ _ e)) rfl ?_ ?_⟩⟩
      · rintro i x l H2 H3 hi hl2 s e2 r ⟨rfl, hx⟩
        exact ⟨rfl, _, rfl, step D hD i x l H3 hi hl2 s e2 r hx⟩
      · intro l H2 hl2 s e2 r
        rw [List.length_map, List.take_of_length_le (Nat.le_refl _)] at r
        subst r
        refine ⟨D, _, rfl, e2, _, rfl, a, _, rfl, .inr (SqT.of (s _ _ e)), rfl, ?_⟩
        rw [decide_eq_true (by simp)]
        exact q _ s
end
end Lv
set_option maxHeartbeats 4000000
namespace Lv
open PySem PySem.Spec PyProof.Rows L2
def lendsOk (ns : List Int) : Prop := 1 ≤ ns.length ∧ ns.length ≤ 5 ∧ (∀ n ∈ ns, 0 ≤ n ∧ n ≤ 24) ∧ ∀ (i : Nat) (x y : Int), ns[i]? = some x → ns[i + 1]? = some y → x ≤ y
def needsOk (ps : List (Int × Int)) (top : Nat) : Prop := ps.length = top ∧ top ≤ 4 ∧ ∀ p ∈ ps, 1 ≤ p.1 ∧ p.1 ≤ 20 ∧ 0 ≤ p.2 ∧ p.2 ≤ top
def pairDt (p : Int × Int) : Dt := .tup [.int p.1, .int p.2]
theorem TvAll.mapGet {H : Hp} {α : Type} {f : α → Dt} {ps : List α} {vs : List V} {i : Nat} {v : V} (h : TvAll H (ps.map f) vs) (e : vs[i]? = some v) : ∃ p, ps[i]? = some p ∧ Tv H (f p) v := by
  obtain ⟨d, h1, h2⟩ := h.get e
  rw [List.getElem?_map] at h1
  cases q : ps[i]? with
  | none =>
    rw [q] at h1
    cases h1
  | some p =>
    rw [q] at h1
    cases h1
    exact ⟨p, rfl, h2⟩
theorem getMap {α : Type} {f : α → V} {ps : List α} {i : Nat} {v : V} (e : (ps.map f)[i]? = some v) : ∃ p, ps[i]? = some p ∧ v = f p := by
  rw [List.getElem?_map] at e
  cases q : ps[i]? with
  | none =>
    rw [q] at e
    cases e
  | some p =>
    rw [q] at e
    cases e
    exact ⟨p, rfl, rfl⟩
theorem allTrue {n : Nat} : ((List.range n).map fun _ => true).all id = true := by simp
theorem range_bl {n : Nat} : (List.range n).map (fun _ => V.bl true) = ((List.range n).map fun _ => true).map V.bl := by simp [List.map_map, Function.comp_def]
section
variable {P : Program} {w : World} {K : PySem.W.Frag} {mg : Str → Option Value} {base : Heap}
def sp_are_lends : Sp := sp1 fun v H Q => ∃ (a : Addr) (ns : List Int), v = .ref a ∧ H a = some (.tup (ns.map V.int)) ∧ lendsOk ns ∧ ∀ H', Same H H' → Q (.bl true) H'
abbrev N_are_lends : List Str := ["lends", "number", "one", "two"]
theorem sc_are_lends : FnScope N_are_lends ["lends"] (defScope s_are_lends) := ⟨rfl, rfl, rfl, by decide +kernel, rfl, by decide +kernel, by decide +kernel⟩
theorem ok_are_lends (T : Txt K mg) : CallOk P w K mg base 2 "are_lends" ["lends"] [] sp_are_lends := by
  refine call_ok T 8 T.g_are_lends sc_are_lends (fun vs H Q E h => ?_) (fun f cdv A outer s H vs Q E hr h => ?_) (fun _ _ _ _ _ _ us hl => match us, hl with | [_], _ => rfl)
  · obtain ⟨x0, rfl, _⟩ := h
    rfl
  · have nd := sc_are_lends.nd
    have hu := hu_of hr
    have hu64 := hu64_of hr
    have c_is_listed := ok_is_listed (P := P) (w := w) (base := base) T
    have c_is_whole := ok_is_whole (P := P) (w := w) (base := base) T
    obtain ⟨x0, rfl, h⟩ := h
    refine ⟨_, (pss_cons (ps_if (PW.pt (pw_or (pt_not (pt_val (pe_callO c_is_listed (hr.mono (by first | decide | omega)) (pa_cons (pv 0) pa_nil)))) (pw_or1 (pt_not (pt_chain op_le op_le pe_int (pe_callB (lenSK (K := K)) (by rfl) T.b_len boot_len (pa_cons (pv 0) pa_nil)) (pe_op op_add (pe_gint T.i_MOST_RANK) pe_int)))))) (pss_one (ps_ret pe_bl)) pss_nil) (pss_cons (ps_if (pt_not (pt_val (pe_callB (allK (K := K)) (by rfl) T.b_all boot_all (pa_cons (pe_lc (own := [("number", 1)]) (g := (gName 1)) (tt := tYes) rfl nd (pi_tup (pv 0)) (blkOk_by (own := [("number", 1)]) (N := N_are_lends) (sc := defScope s_are_lends) (by decide +kernel)) (fun _ _ _ _ _ => (pg_name (i := 1) nd rfl (Or.inl rfl))) (fun _ _ _ _ _ => pts_nil) (fun _ _ _ _ _ => (pe_callO c_is_whole (hr.mono (by first | decide | omega)) (pa_cons (pv 1) (pa_cons pe_int (pa_cons (pe_gint T.i_MOST_UNITS_ladders) pa_nil)))))) pa_nil)))) (pss_one (ps_ret pe_bl)) pss_nil) (pss_one (ps_ret (pe_callB (allK (K := K)) (by rfl) T.b_all boot_all (pa_cons (pe_lc (own := [("one", 2), ("two", 3)]) (g := (gTup K 2 (gCons (gName 2) (gCons (gName 3) gNil)))) (tt := tYes) rfl nd (RZ.pi_zipA (by rfl) T.b_zip (pa_cons (pv 0) (pa_cons (pe_slice (slAK (K := K)) (pv 0) (po_some pe_int) po_none) pa_nil))) (blkOk_by (own := [("one", 2), ("two", 3)]) (N := N_are_lends) (sc := defScope s_are_lends) (by decide +kernel)) (fun _ _ _ _ _ => (pg_tup rfl (pgs_cons (pg_name (i := 2) nd rfl (Or.inl rfl)) (pgs_cons (pg_name (i := 3) nd rfl (Or.inl rfl)) pgs_nil)))) (fun _ _ _ _ _ => pts_nil) (fun _ _ _ _ _ => (pe_cmpR op_le (pv 2) (pv 3) (nomark _)))) pa_nil)))))), ?_⟩
    obtain ⟨a, ns, rfl, e, ⟨h1, h2, h3, h4⟩, q⟩ := h
    have z5 : (5 : Nat) < sizeLine := by decide
    refine ⟨_, rfl, _, rfl, a, rfl, .inl ⟨_, e⟩, fun H1 s1 => ⟨_, rfl, iteF ?_⟩⟩
    have e1 := s1 _ _ e
    refine ⟨_, rfl, _, _, rfl, .inr (SqT.of e1), _, _, rfl, rfl, _, rfl, ?_⟩
    rw [decide_eq_true (show (1 : Int) ≤ (ns.map V.int).length by rw [List.length_map]; omega)]
    refine iteT ⟨_, _, rfl, rfl, _, _, rfl, rfl, _, rfl, ?_⟩
    rw [decide_eq_true (show ((ns.map V.int).length : Int) ≤ 4 + 1 by rw [List.length_map]; omega)]
    refine iteF ⟨_, rfl, a, rfl, ⟨_, SqT.of e1⟩, fun D hD => lc_rel walk_tup (RF fun _ => .bl true) hD (fun H2 s => SqT.of (s _ _ e1)) rfl ?_ ?_⟩
    · rintro i x l H2 H3 hi hl2 s e2 r ⟨rfl, hx2⟩
      obtain ⟨n, hn, rfl⟩ := getMap hx2
      have hn2 := h3 n (List.mem_of_getElem? hn)
      rw [List.length_map] at hi
      refine ⟨rfl, _, rfl, _, _, _, rfl, n, 0, rfl, rfl, .inr ⟨24, rfl, lc_takeF hD (by omega) hl2 s e2 r ?_⟩⟩
      rw [decide_eq_true hn2]
    · intro l H2 hl2 s e2 r
      have r : l = _ := r
      rw [r, range_bl] at e2
      refine ⟨D, _, rfl, SqL.of e2, _, rfl, ?_⟩
      rw [allTrue]
      have e3 := s _ _ e1
      refine iteF ⟨_, rfl, _, rfl, _, rfl, _, _, rfl, SqT.of e3, fun z => ?_, fun _ b hb => ?_⟩
      · exfalso
        have z1 := z.1
        have e0 : HT.sIx (ns.map V.int).length 0 (some 1) = min 1 (ns.map V.int).length := HT.sIx_nat _ _ 1
        rw [e0, List.length_map] at z1
        omega
      · have ec : cutV (ns.map V.int) (some 1) none = (ns.drop 1).map V.int := by
          unfold cutV HT.sIx
          rw [List.length_map]
          have e0 : min (1 : Int).toNat ns.length = 1 := by
            show min 1 ns.length = 1
            omega
          simp only [show ¬ ((1 : Int) < 0) by decide, if_false, e0]
          rw [← List.map_drop, List.take_of_length_le (by simp)]
        rw [ec]
        have e4 : (upd H2 b (.tup ((ns.drop 1).map V.int))) a = some (.tup (ns.map V.int)) := by rw [upd_ne (ne_of_none e3 hb)]; exact e3
        refine ⟨a, b, _, _, rfl, .inr ⟨SqT.of e4, SqT.of upd_same, fun D2 hD2 => lc_rel (walk_zipT (n := ns.length - 1) (by rw [List.length_map, List.length_map, List.length_drop]; omega)) (RF fun _ => .bl true) hD2 (fun H3 s3 => ⟨SqT.of (s3 _ _ e4), SqT.of (s3 _ _ upd_same)⟩) rfl ?_ ?_⟩⟩
        · rintro i x l2 H3 H4 hi hl3 s3 e5 r3 ⟨T2, x1, x2, rfl, hT, rfl, hx1, hx2⟩
          obtain ⟨n1, hn1, rfl⟩ := getMap hx1
          obtain ⟨n2, hn2, rfl⟩ := getMap hx2
          rw [List.getElem?_drop] at hn2
          have hle := h4 i n1 n2 hn1 (by rw [Nat.add_comm]; exact hn2)
          refine ⟨T2, _, rfl, SqT.of upd_same, rfl, _, _, rfl, _, _, rfl, rfl, rfl, ?_⟩
          refine ⟨_, rfl, _, rfl, _, _, rfl, rfl, lc_takeF hD2 (by omega) hl3 (same_to s3 hT) (by rw [upd_ne (ne_of_none e5 hT)]; exact e5) r3 ?_⟩
          exact congrArg V.bl (decide_eq_true hle)
        · intro l2 H3 hl3 s3 e5 r3
          have r3 : l2 = _ := r3
          rw [r3, range_bl] at e5
          refine ⟨D2, _, rfl, SqL.of e5, ?_⟩
          rw [allTrue]
          exact q _ ((s1.trans s).trans ((same_new hb).trans s3))
def sp_are_needs : Sp := sp2 fun v t H Q => ∃ (a : Addr) (xs : List V) (ps : List (Int × Int)) (top : Nat), v = .ref a ∧ H a = some (.tup xs) ∧ TvAll H (ps.map pairDt) xs ∧ t = .int top ∧ needsOk ps top ∧ ∀ H', Same H H' → Q (.bl true) H'
abbrev N_are_needs : List Str := ["needs", "top", "pair"]
theorem sc_are_needs : FnScope N_are_needs ["needs", "top"] (defScope s_are_needs) := ⟨rfl, rfl, rfl, by decide +kernel, rfl, by decide +kernel, by decide +kernel⟩
theorem ok_are_needs (T : Txt K mg) : CallOk P w K mg base 2 "are_needs" ["needs", "top"] [] sp_are_needs := by
  refine call_ok T 9 T.g_are_needs sc_are_needs (fun vs H Q E h => ?_) (fun f cdv A outer s H vs Q E hr h => ?_) (fun _ _ _ _ _ _ us hl => match us, hl with | [_, _], _ => rfl)
  · obtain ⟨x0, x1, rfl, _⟩ := h
    rfl
  · have nd := sc_are_needs.nd
    have hu := hu_of hr
    have hu64 := hu64_of hr
    have c_is_listed := ok_is_listed (P := P) (w := w) (base := base) T
    have c_is_whole := ok_is_whole (P := P) (w := w) (base := base) T
    obtain ⟨x0, x1, rfl, h⟩ := h
    refine ⟨_, (pss_cons (ps_if (PW.pt (pw_or (pt_not (pt_val (pe_callO c_is_listed (hr.mono (by first | decide | omega)) (pa_cons (pv 0) pa_nil)))) (pw_or1 (pt_cmpR op_ne (pe_callB (lenSK (K := K)) (by rfl) T.b_len boot_len (pa_cons (pv 0) pa_nil)) (pv 1) (nomark _))))) (pss_one (ps_ret pe_bl)) pss_nil) (pss_cons (ps_for PassesOwn.never rfl (pi_tup (pv 0)) (pg_name (i := 2) nd rfl (Or.inl rfl)) (pss_cons (ps_if (PW.pt (pw_or (pt_not (pt_val (pe_callB (isiK (K := K)) (by rfl) T.b_isinstance boot_isinstance (pa_cons (pv 2) (pa_cons (pe_gty T.b_tuple boot_tuple) pa_nil))))) (pw_or1 (pt_cmpR op_ne (pe_callB (lenSK (K := K)) (by rfl) T.b_len boot_len (pa_cons (pv 2) pa_nil)) pe_int (nomark _))))) (pss_one (ps_ret pe_bl)) pss_nil) (pss_one (ps_if (PW.pt (pw_or (pt_not (pt_val (pe_callO c_is_whole (hr.mono (by first | decide | omega)) (pa_cons (pe_ix (ixT (K := K)) (pv 2) pe_int (fun _ _ => rfl)) (pa_cons pe_int (pa_cons (pe_gint T.i_MOST_NEEDED) pa_nil)))))) (pw_or1 (pt_not (pt_val (pe_callO c_is_whole (hr.mono (by first | decide | omega)) (pa_cons (pe_ix (ixT (K := K)) (pv 2) pe_int (fun _ _ => rfl)) (pa_cons pe_int (pa_cons (pv 1) pa_nil))))))))) (pss_one (ps_ret pe_bl)) pss_nil)))) (pss_one (ps_ret pe_bl)))), ?_⟩
    obtain ⟨a, xs, ps, top, rfl, e, tr, rfl, ⟨h1, h2, h3⟩, q⟩ := h
    refine ⟨_, rfl, _, rfl, a, rfl, .inl ⟨_, e⟩, fun H1 s1 => ⟨_, rfl, iteF ?_⟩⟩
    have e1 := s1 _ _ e
    have hx : ps.length = xs.length := by simpa using tr.length
    refine ⟨_, rfl, _, _, rfl, .inr (SqT.of e1), _, rfl, rfl, _, rfl, ?_⟩
    rw [decide_eq_true (show V.int (xs.length : Nat) = V.int (top : Nat) by rw [← hx, h1])]
    refine iteF ⟨_, rfl, a, rfl, ⟨_, SqT.of e1⟩, for_it walk_tup (fun i σ H2 => ∃ v, σ = [some (.ref a), some (.int top), v] ∧ Same H H2) ⟨_, rfl, s1⟩ (fun i σ H2 _ ⟨_, _, s⟩ => SqT.of (s _ _ e)) ?_ ?_⟩
    · rintro i x σ H2 H3 hi ⟨v, rfl, s⟩ ⟨rfl, hx2⟩
      obtain ⟨p, hp, b, ys, rfl, eb, ty⟩ := (tr.keep (tk_same s)).mapGet hx2
      obtain rfl : ys = [.int p.1, .int p.2] := TvAll.ints (zs := [p.1, p.2]).mp ty
      obtain ⟨k1, k2, k3, k4⟩ := h3 p (List.mem_of_getElem? hp)
      refine ⟨_, rfl, _, _, .type "tuple", _, _, rfl, .ty _, .base (.tup eb), kit_ty k_tup_tup, _, rfl, iteF ?_⟩
      refine ⟨_, rfl, _, _, rfl, .inr (SqT.of eb), rfl, _, rfl, iteF ?_⟩
      refine ⟨_, rfl, _, _, _, _, rfl, rfl, SqT.of eb, atI_nat (j := 0) rfl, _, _, _, rfl, p.1, 1, rfl, rfl, .inr ⟨20, rfl, _, rfl, ?_⟩⟩
      rw [decide_eq_true ⟨k1, k2⟩]
      refine iteF ⟨_, rfl, _, _, _, _, rfl, rfl, SqT.of eb, atI_nat (j := 1) rfl, _, rfl, _, _, _, rfl, p.2, 0, rfl, rfl, .inr ⟨top, rfl, _, rfl, ?_⟩⟩
      rw [decide_eq_true ⟨k3, k4⟩]
      exact iteF ⟨_, rfl, s⟩
    · rintro σ H2 ⟨v, rfl, s⟩
      exact q _ s
end
end Lv
set_option maxHeartbeats 4000000
namespace Lv
open PySem PySem.Spec PyProof.Rows L2
theorem iteF' {c : Bool} {A B : Prop} (h : c = false) (b : B) : if c = true then A else B := by
  subst h
  exact b
def DSame : Eqv := fun x y _ => x = y ∧ ∃ a, x = .ref a
theorem mon_dsame : Mon DSame := fun _ _ _ _ _ d => d
theorem eqG_dsame {X : Cx} {n : Nat} : EqG X n DSame := by
  intro A pins s σ H x y u v sb I rx ry d
  obtain ⟨rfl, a, rfl⟩ := d
  cases rx
  cases ry
  exact SeqAt.EqAt.same (A := A) (s := s) (.ref a) X.prog X.w X.xe _ ⟨rfl, H, I, Ext.rfl'⟩
theorem op_eqO {X : Cx} {k : Nat} {C : Addr} {ps : List Str} {R : Addr → Addr → Hp → Prop} (c : MethOk X.prog X.w X.K X.mg X.base k C "__eq__" ps (spEq R)) (hr : Room k X.A) : OpR X (compareOp .Eq) (rEqG (DIns C R)) := by
  obtain ⟨f, fd, F, cl, hm, hb⟩ := c.ex
  exact op_eqG (rcG_ins (E := E0) F hm.at_ hm.fn hb pass0) hr
def fl_Ladder (v0 v1 v2 : V) : List (Str × V) := (putF "top" v2 (putF "needs" v1 (putF "lends" v0 [])))
theorem fl_Ladder_lends (v0 v1 v2 : V) : (fl_Ladder v0 v1 v2).lookup ("lends" : Str) = some v0 := by
  unfold fl_Ladder
  rw [lookup_putF, if_neg (show ¬ (("lends" : Str) = "top") by decide +kernel), lookup_putF, if_neg (show ¬ (("lends" : Str) = "needs") by decide +kernel), lookup_putF, if_pos rfl]
theorem fl_Ladder_needs (v0 v1 v2 : V) : (fl_Ladder v0 v1 v2).lookup ("needs" : Str) = some v1 := by
  unfold fl_Ladder
  rw [lookup_putF, if_neg (show ¬ (("needs" : Str) = "top") by decide +kernel), lookup_putF, if_pos rfl]
theorem fl_Ladder_top (v0 v1 v2 : V) : (fl_Ladder v0 v1 v2).lookup ("top" : Str) = some v2 := by
  unfold fl_Ladder
  rw [lookup_putF, if_pos rfl]
theorem fl_Ladder_no (v0 v1 v2 : V) {m : Str} (h0 : ¬ m = "lends") (h1 : ¬ m = "needs") (h2 : ¬ m = "top") : (fl_Ladder v0 v1 v2).lookup m = none := by
  unfold fl_Ladder
  rw [lookup_putF, if_neg h2, lookup_putF, if_neg h1, lookup_putF, if_neg h0]
  rfl
def fl_Founder (v0 v1 v2 : V) : List (Str × V) := (putF "rank" v2 (putF "gift" v1 (putF "name" v0 [])))
theorem fl_Founder_name (v0 v1 v2 : V) : (fl_Founder v0 v1 v2).lookup ("name" : Str) = some v0 := by
  unfold fl_Founder
  rw [lookup_putF, if_neg (show ¬ (("name" : Str) = "rank") by decide +kernel), lookup_putF, if_neg (show ¬ (("name" : Str) = "gift") by decide +kernel), lookup_putF, if_pos rfl]
theorem fl_Founder_gift (v0 v1 v2 : V) : (fl_Founder v0 v1 v2).lookup ("gift" : Str) = some v1 := by
  unfold fl_Founder
  rw [lookup_putF, if_neg (show ¬ (("gift" : Str) = "rank") by decide +kernel), lookup_putF, if_pos rfl]
theorem fl_Founder_rank (v0 v1 v2 : V) : (fl_Founder v0 v1 v2).lookup ("rank" : Str) = some v2 := by
  unfold fl_Founder
  rw [lookup_putF, if_pos rfl]
theorem fl_Founder_no (v0 v1 v2 : V) {m : Str} (h0 : ¬ m = "name") (h1 : ¬ m = "gift") (h2 : ¬ m = "rank") : (fl_Founder v0 v1 v2).lookup m = none := by
  unfold fl_Founder
  rw [lookup_putF, if_neg h2, lookup_putF, if_neg h1, lookup_putF, if_neg h0]
  rfl
def fl_Rule (v0 v1 v2 v3 : V) : List (Str × V) := (putF "rank" v3 (putF "needs" v2 (putF "kind" v1 (putF "word" v0 []))))
theorem fl_Rule_word (v0 v1 v2 v3 : V) : (fl_Rule v0 v1 v2 v3).lookup ("word" : Str) = some v0 := by
  unfold fl_Rule
  rw [lookup_putF, if_neg (show ¬ (("word" : Str) = "rank") by decide +kernel), lookup_putF, if_neg (show ¬ (("word" : Str) = "needs") by decide +kernel), lookup_putF, if_neg (show ¬ (("word" : Str) = "kind") by decide +kernel), lookup_putF, if_pos rfl]
theorem fl_Rule_kind (v0 v1 v2 v3 : V) : (fl_Rule v0 v1 v2 v3).lookup ("kind" : Str) = some v1 := by
  unfold fl_Rule
  rw [lookup_putF, if_neg (show ¬ (("kind" : Str) = "rank") by decide +kernel), lookup_putF, if_neg (show ¬ (("kind" : Str) = "needs") by decide +kernel), lookup_putF, if_pos rfl]
theorem fl_Rule_needs (v0 v1 v2 v3 : V) : (fl_Rule v0 v1 v2 v3).lookup ("needs" : Str) = some v2 := by
  unfold fl_Rule
  rw [lookup_putF, if_neg (show ¬ (("needs" : Str) = "rank") by decide +kernel), lookup_putF, if_pos rfl]
theorem fl_Rule_rank (v0 v1 v2 v3 : V) : (fl_Rule v0 v1 v2 v3).lookup ("rank" : Str) = some v3 := by
  unfold fl_Rule
  rw [lookup_putF, if_pos rfl]
theorem fl_Rule_no (v0 v1 v2 v3 : V) {m : Str} (h0 : ¬ m = "word") (h1 : ¬ m = "kind") (h2 : ¬ m = "needs") (h3 : ¬ m = "rank") : (fl_Rule v0 v1 v2 v3).lookup m = none := by
  unfold fl_Rule
  rw [lookup_putF, if_neg h3, lookup_putF, if_neg h2, lookup_putF, if_neg h1, lookup_putF, if_neg h0]
  rfl
def fl_Thread (v0 v1 : V) : List (Str × V) := (putF "readers" v1 (putF "name" v0 []))
theorem fl_Thread_name (v0 v1 : V) : (fl_Thread v0 v1).lookup ("name" : Str) = some v0 := by
  unfold fl_Thread
  rw [lookup_putF, if_neg (show ¬ (("name" : Str) = "readers") by decide +kernel), lookup_putF, if_pos rfl]
theorem fl_Thread_readers (v0 v1 : V) : (fl_Thread v0 v1).lookup ("readers" : Str) = some v1 := by
  unfold fl_Thread
  rw [lookup_putF, if_pos rfl]
theorem fl_Thread_no (v0 v1 : V) {m : Str} (h0 : ¬ m = "name") (h1 : ¬ m = "readers") : (fl_Thread v0 v1).lookup m = none := by
  unfold fl_Thread
  rw [lookup_putF, if_neg h1, lookup_putF, if_neg h0]
  rfl
def fl_Forum (v0 v1 v2 v3 : V) : List (Str × V) := (putF "threads" v3 (putF "rules" v2 (putF "founders" v1 (putF "ladder" v0 []))))
theorem fl_Forum_ladder (v0 v1 v2 v3 : V) : (fl_Forum v0 v1 v2 v3).lookup ("ladder" : Str) = some v0 := by
  unfold fl_Forum
  rw [lookup_putF, if_neg (show ¬ (("ladder" : Str) = "threads") by decide +kernel), lookup_putF, if_neg (show ¬ (("ladder" : Str) = "rules") by decide +kernel), lookup_putF, if_neg (show ¬ (("ladder" : Str) = "founders") by decide +kernel), lookup_putF, if_pos rfl]
theorem fl_Forum_founders (v0 v1 v2 v3 : V) : (fl_Forum v0 v1 v2 v3).lookup ("founders" : Str) = some v1 := by
  unfold fl_Forum
  rw [lookup_putF, if_neg (show ¬ (("founders" : Str) = "threads") by decide +kernel), lookup_putF, if_neg (show ¬ (("founders" : Str) = "rules") by decide +kernel), lookup_putF, if_pos rfl]
theorem fl_Forum_rules (v0 v1 v2 v3 : V) : (fl_Forum v0 v1 v2 v3).lookup ("rules" : Str) = some v2 := by
  unfold fl_Forum
  rw [lookup_putF, if_neg (show ¬ (("rules" : Str) = "threads") by decide +kernel), lookup_putF, if_pos rfl]
theorem fl_Forum_threads (v0 v1 v2 v3 : V) : (fl_Forum v0 v1 v2 v3).lookup ("threads" : Str) = some v3 := by
  unfold fl_Forum
  rw [lookup_putF, if_pos rfl]
theorem fl_Forum_no (v0 v1 v2 v3 : V) {m : Str} (h0 : ¬ m = "ladder") (h1 : ¬ m = "founders") (h2 : ¬ m = "rules") (h3 : ¬ m = "threads") : (fl_Forum v0 v1 v2 v3).lookup m = none := by
  unfold fl_Forum
  rw [lookup_putF, if_neg h3, lookup_putF, if_neg h2, lookup_putF, if_neg h1, lookup_putF, if_neg h0]
  rfl
def LadderAt (K : PySem.W.Frag) (H : Hp) (x : Addr) (ns : List Int) (ps : List (Int × Int)) : Prop := ∃ dx la na, H x = some (.ins (He.ga K "Ladder") dx (fl_Ladder (.ref la) (.ref na) (.int (ns.length - 1)))) ∧ Tv H (.tup (ns.map Dt.int)) (.ref la) ∧ Tv H (.tup (ps.map pairDt)) (.ref na)
def FounderAt (K : PySem.W.Frag) (H : Hp) (x : Addr) (n : Str) (g r : Int) : Prop := ∃ dx, H x = some (.ins (He.ga K "Founder") dx (fl_Founder (.str n) (.int g) (.int r)))
def RuleAt (K : PySem.W.Frag) (H : Hp) (x : Addr) (w k : Str) (n r : Int) : Prop := ∃ dx, H x = some (.ins (He.ga K "Rule") dx (fl_Rule (.str w) (.str k) (.int n) (.int r)))
def ThreadAt (K : PySem.W.Frag) (H : Hp) (x : Addr) (n : Str) : Prop := ∃ dx v, H x = some (.ins (He.ga K "Thread") dx (fl_Thread (.str n) v))
theorem ints_ok {ns : List Int} (h : ns.length ≤ 1000) : DtOk 3 (.tup (ns.map Dt.int)) := ⟨by simpa using h, fun x hx => by
  obtain ⟨n, _, rfl⟩ := List.mem_map.mp hx
  trivial⟩
theorem pairs_ok {ns : List (Int × Int)} (h : ns.length ≤ 1000) : DtOk 3 (.tup (ns.map pairDt)) := ⟨by simpa using h, fun x hx => by
  obtain ⟨n, _, rfl⟩ := List.mem_map.mp hx
  exact ⟨by simp, fun y hy => by
    rcases List.mem_cons.mp hy with rfl | hy
    · trivial
    · obtain rfl := List.mem_singleton.mp hy
      trivial⟩⟩
theorem strs_ok {ns : List Str} (h : ns.length ≤ 1000) : DtOk 3 (.tup (ns.map Dt.str)) := ⟨by simpa using h, fun x hx => by
  obtain ⟨n, _, rfl⟩ := List.mem_map.mp hx
  trivial⟩
section
variable {P : Program} {w : World} {K : PySem.W.Frag} {mg : Str → Option Value} {base : Heap}
def sp_Ladder_init (K : PySem.W.Frag) : Sp := sp3 fun v x0 x1 H Q => ∃ (x dx a : Addr) (ns : List Int) (b : Addr) (ps : List (Int × Int)), v = .ref x ∧ H x = some (.ins (He.ga K "Ladder") dx []) ∧ x0 = .ref a ∧ Tv H (.tup (ns.map Dt.int)) (.ref a) ∧ lendsOk ns ∧
  x1 = .ref b ∧ Tv H (.tup (ps.map pairDt)) (.ref b) ∧ needsOk ps (ns.length - 1) ∧ ∀ H', But1 x H H' → LadderAt K H' x ns ps → Q .non H'
abbrev N_Ladder_init : List Str := ["self", "lends", "needs"]
theorem sc_Ladder_init : FnScope N_Ladder_init ["self", "lends", "needs"] (defScope s_Ladder_init) := ⟨rfl, rfl, rfl, by decide +kernel, rfl, by decide +kernel, by decide +kernel⟩
theorem ok_Ladder_init (T : Txt K mg) : MakeOk P w K mg base 5 "Ladder" (He.ga K "Ladder") ["self", "lends", "needs"] (sp_Ladder_init K) := by
  refine make_ok (q := "Ladder.__init__") T 12 T.g_Ladder T.mk_Ladder sc_Ladder_init (fun vs H Q E h => ?_) (fun f cdv A outer s H vs Q E hr h => ?_) (fun _ _ _ _ _ _ us hl => match us, hl with | [_, _, _], _ => rfl)
  · obtain ⟨x0, x1, x2, rfl, _⟩ := h
    rfl
  · have nd := sc_Ladder_init.nd
    have hu := hu_of hr
    have hu64 := hu64_of hr
    have c_are_lends := ok_are_lends (P := P) (w := w) (base := base) T
    have c_are_needs := ok_are_needs (P := P) (w := w) (base := base) T
    have c_as_tuples := ok_as_tuples (P:=P) (w:=w) (base:=base) T 3
    obtain ⟨x0, x1, x2, rfl, h⟩ := h
    refine ⟨_, (pss_cons (ps_if (pt_not (pt_val (pe_callO c_are_lends (hr.mono (by first | decide | omega)) (pa_cons (pv 1) pa_nil)))) (pss_one ps_never) pss_nil) (pss_cons (ps_if (pt_not (pt_val (pe_callO c_are_needs (hr.mono (by first | decide | omega)) (pa_cons (pv 2) (pa_cons (pe_op op_sub (pe_callB (lenSK (K := K)) (by rfl) T.b_len boot_len (pa_cons (pv 1) pa_nil)) pe_int) pa_nil))))) (pss_one ps_never) pss_nil) (pss_cons (ps_fld (pv 0) (pe_callO c_as_tuples (hr.mono (by first | decide | omega)) (pa_cons (pv 1) pa_nil)) rfl) (pss_cons (ps_fld (pv 0) (pe_callO c_as_tuples (hr.mono (by first | decide | omega)) (pa_cons (pv 2) pa_nil)) rfl) (pss_one (ps_fld (pv 0) (pe_op op_sub (pe_callB (lenSK (K := K)) (by rfl) T.b_len boot_len (pa_cons (pv 1) pa_nil)) pe_int) rfl)))))), ?_⟩
    obtain ⟨x, dx, a, ns, b, ps, rfl, ox, rfl, ta, ok1, rfl, tb, ok2, q⟩ := h
    obtain ⟨a', xs, ea, e, tx⟩ := ta
    cases ea
    have exs : xs = ns.map V.int := TvAll.ints.mp tx
    subst exs
    refine ⟨_, rfl, _, rfl, a, ns, rfl, e, ok1, fun H1 s1 => ⟨_, rfl, iteF ?_⟩⟩
    obtain ⟨b', ys, eb, e2, ty⟩ := tb.keep (tk_same s1)
    cases eb
    have e1 := s1 _ _ e
    have l1 := ok1.1
    have l5 := ok1.2.1
    have l6 := ok2.1
    have l7 := ok2.2.1
    refine ⟨_, rfl, _, rfl, _, _, rfl, .inr (SqT.of e1), _, _, rfl, rfl, _, _, rfl, b, ys, ps, ns.length - 1, rfl, e2, ty, ?_, ok2, fun H2 s2 => ⟨_, rfl, iteF ?_⟩⟩
    · rw [List.length_map]
      exact congrArg V.int (by omega)
    have s12 := s1.trans s2
    have tv2 : Tv H2 (.tup (ns.map Dt.int)) (.ref a) := ⟨a, _, rfl, s12 _ _ e, TvAll.ints.mpr rfl⟩
    refine ⟨_, rfl, _, rfl, _, tv2, ints_ok (by omega), fun H3 v3 s3 tv3 => ?_⟩
    have o3 := (s12.trans s3) _ _ ox
    obtain ⟨la, xs3, rfl, e3, tx3⟩ := tv3
    refine ⟨_, rfl, x, _, dx, _, rfl, o3, T.cls_Ladder, T.na_Ladder_lends, (by decide), ?_⟩
    have k3 : Tk H3 (upd H3 x (.ins (He.ga K "Ladder") dx (putF "lends" (.ref la) []))) := tk_mut o3 (by intro _ z; cases z)
    have tvb : Tv (upd H3 x (.ins (He.ga K "Ladder") dx (putF "lends" (.ref la) []))) (.tup (ps.map pairDt)) (.ref b) := Tv.keep (k3) (Tv.keep (tk_same (s2.trans s3)) ⟨b, ys, rfl, e2, ty⟩)
    refine ⟨_, rfl, _, rfl, _, tvb, pairs_ok (by omega), fun H4 v4 s4 tv4 => ?_⟩
    have o4 := s4 _ _ upd_same
    obtain ⟨na, xs4, rfl, e4, tx4⟩ := tv4
    refine ⟨_, rfl, x, _, dx, _, rfl, o4, T.cls_Ladder, T.na_Ladder_needs, Nat.lt_of_le_of_lt (putF_len (Nat.le_refl _)) (by decide), ?_⟩
    have k4 : Tk H4 (upd H4 x (.ins (He.ga K "Ladder") dx (putF "needs" (.ref na) (putF "lends" (.ref la) [])))) := tk_mut o4 (by intro _ z; cases z)
    have e5 := k4 _ _ ((tk_same s4).trans Tk.refl _ _ (k3 _ _ ((tk_same (s12.trans s3)) _ _ e)))
    refine ⟨_, rfl, _, _, rfl, .inr (SqT.of e5), _, _, rfl, rfl, _, rfl, x, _, dx, _, rfl, upd_same, T.cls_Ladder, T.na_Ladder_top, Nat.lt_of_le_of_lt (putF_len (putF_len (Nat.le_refl _))) (by decide), ?_⟩
    refine q _ (but1_upd (but1_upd (But.trans (but1_upd (but_same (s12.trans s3))) (but_same s4)))) ⟨dx, la, na, ?_, ?_, ?_⟩
    · rw [upd_same, List.length_map]
      rfl
    · have k5 : Tk H3 (upd (upd H4 x (.ins (He.ga K "Ladder") dx (putF "needs" (.ref na) (putF "lends" (.ref la) [])))) x (.ins (He.ga K "Ladder") dx (putF "top" (.int (((ns.map V.int).length : Int) - 1)) (putF "needs" (.ref na) (putF "lends" (.ref la) []))))) :=
        ((k3.trans (tk_same s4)).trans k4).trans (tk_mut upd_same (by intro _ z; cases z))
      exact Tv.keep k5 ⟨la, xs3, rfl, e3, tx3⟩
    · have k5 : Tk H4 (upd (upd H4 x (.ins (He.ga K "Ladder") dx (putF "needs" (.ref na) (putF "lends" (.ref la) [])))) x (.ins (He.ga K "Ladder") dx (putF "top" (.int (((ns.map V.int).length : Int) - 1)) (putF "needs" (.ref na) (putF "lends" (.ref la) []))))) :=
        k4.trans (tk_mut upd_same (by intro _ z; cases z))
      exact Tv.keep k5 ⟨na, xs4, rfl, e4, tx4⟩
def relL (K : PySem.W.Frag) : Addr → Addr → Hp → Prop := fun a b H => a = b ∧ ∃ ns ps, LadderAt K H a ns ps
theorem relL_at {a b : Addr} {H : Hp} (h : relL K a b H) : a = b ∧ ∃ dx la na tv, H a = some (.ins (He.ga K "Ladder") dx (fl_Ladder (.ref la) (.ref na) tv)) ∧ (∃ xs, H la = some (.tup xs)) ∧ ∃ xs, H na = some (.tup xs) := by
  obtain ⟨rfl, ns, ps, dx, la, na, o, ⟨la', xs, e1, e2, _⟩, ⟨na', ys, e3, e4, _⟩⟩ := h
  cases e1
  cases e3
  exact ⟨rfl, dx, la, na, _, o, ⟨xs, e2⟩, ⟨ys, e4⟩⟩
abbrev N_Ladder_eq : List Str := ["self", "other"]
theorem sc_Ladder_eq : FnScope N_Ladder_eq ["self", "other"] (defScope s_Ladder_eq) := ⟨rfl, rfl, rfl, by decide +kernel, rfl, by decide +kernel, by decide +kernel⟩
theorem ok_Ladder_eq (T : Txt K mg) : MethOk P w K mg base 2 (He.ga K "Ladder") "__eq__" ["self", "other"] (spEq (relL K)) := by
  refine meth_ok (q := "Ladder.__eq__") T 13 T.cls_Ladder T.me_Ladder_eq sc_Ladder_eq (fun vs H Q E h => ?_) (fun f cdv A outer s H vs Q E hr h => ?_) (fun _ _ _ _ _ _ us hl => match us, hl with | [_, _], _ => rfl)
  · obtain ⟨x0, x1, rfl, _⟩ := h
    rfl
  · have nd := sc_Ladder_eq.nd
    have hu := hu_of hr
    have hu64 := hu64_of hr
    obtain ⟨x0, x1, rfl, h⟩ := h
    refine ⟨_, (pss_one (ps_ret (pe_and (pe_callB (C8.call_isC (T.ins T.cls_Ladder (by decide +kernel))) (by rfl) T.b_isinstance boot_isinstance (pa_cons (pv 1) (pa_cons (pe_gref T.g_Ladder) pa_nil))) (pe_one (pe_cmpR (op_eqG (n := 1) (rcG_tup (n := 0) mon_dsame eqG_dsame) (hr.mono (by first | decide | omega))) (pe_tup (pa_cons (fldK (K := K) (pv 0) rfl) (pa_cons (fldK (K := K) (pv 0) rfl) pa_nil))) (pe_tup (pa_cons (fldK (K := K) (pv 1) rfl) (pa_cons (fldK (K := K) (pv 1) rfl) pa_nil))) (nomark _)))))), ?_⟩
    obtain ⟨h, q⟩ := h
    obtain ⟨rfl, dx, la, na, tv, o, _, _⟩ := relL_at h
    refine ⟨_, rfl, _, _, _, rfl, o, _, rfl, iteT ?_⟩
    have sz : (2 : Nat) ≤ sizeLine := by decide
    refine ⟨_, rfl, _, _, _, _, _, rfl, o, T.cls_Ladder, T.na_Ladder_lends, fl_Ladder_lends .., _, rfl, _, _, _, _, _, rfl, o, T.cls_Ladder, T.na_Ladder_needs, fl_Ladder_needs .., sz, fun t ht => ?_⟩
    have s1 := same_new (o := .tup [.ref la, .ref na]) ht
    have o1 := s1 _ _ o
    refine ⟨_, rfl, _, _, _, _, _, rfl, o1, T.cls_Ladder, T.na_Ladder_lends, fl_Ladder_lends .., _, rfl, _, _, _, _, _, rfl, o1, T.cls_Ladder, T.na_Ladder_needs, fl_Ladder_needs .., sz, fun t2 ht2 => ?_⟩
    have s2 := same_new (o := .tup [.ref la, .ref na]) ht2
    refine ⟨⟨t, t2, _, _, rfl, rfl, SqT.of (s2 _ _ upd_same), SqT.of upd_same, Prs.cons ⟨rfl, _, rfl⟩ (Prs.cons ⟨rfl, _, rfl⟩ Prs.nil)⟩, fun H' e => q _ ?_⟩
    exact (s1.trans s2).trans e
abbrev N_Founder_init : List Str := ["self", "name", "gift", "rank"]
theorem sc_Founder_init : FnScope N_Founder_init ["self", "name", "gift", "rank"] (defScope s_Founder_init) := ⟨rfl, rfl, rfl, by decide +kernel, rfl, by decide +kernel, by decide +kernel⟩
theorem ok_Founder_init (T : Txt K mg) : MakeOk P w K mg base 4 "Founder" (He.ga K "Founder") ["self", "name", "gift", "rank"] (sp4 fun v x0 x1 x2 H Q => ∃ (x dx : Addr) (n : Str) (g r : Int), v = .ref x ∧ H x = some (.ins (He.ga K "Founder") dx []) ∧ x0 = .str n ∧ nameOk n = true ∧ x1 = .int g ∧ 1 ≤ g ∧ g ≤ 24 ∧ x2 = .int r ∧ 0 ≤ r ∧ r ≤ 4 ∧ ∀ H', But1 x H H' → FounderAt K H' x n g r → Q .non H') := by
  refine make_ok (q := "Founder.__init__") T 14 T.g_Founder T.mk_Founder sc_Founder_init (fun vs H Q E h => ?_) (fun f cdv A outer s H vs Q E hr h => ?_) (fun _ _ _ _ _ _ us hl => match us, hl with | [_, _, _, _], _ => rfl)
  · obtain ⟨x0, x1, x2, x3, rfl, _⟩ := h
    rfl
  · have nd := sc_Founder_init.nd
    have hu := hu_of hr
    have hu64 := hu64_of hr
    have c_is_name := ok_is_name (P := P) (w := w) (base := base) T
    have c_is_whole := ok_is_whole (P := P) (w := w) (base := base) T
    obtain ⟨x0, x1, x2, x3, rfl, h⟩ := h
    refine ⟨_, (pss_cons (ps_if (pt_not (pt_val (pe_callO c_is_name (hr.mono (by first | decide | omega)) (pa_cons (pv 1) pa_nil)))) (pss_one ps_never) pss_nil) (pss_cons (ps_if (pt_not (pt_val (pe_callO c_is_whole (hr.mono (by first | decide | omega)) (pa_cons (pv 2) (pa_cons pe_int (pa_cons (pe_gint T.i_MOST_UNITS_ladders) pa_nil)))))) (pss_one ps_never) pss_nil) (pss_cons (ps_if (pt_not (pt_val (pe_callO c_is_whole (hr.mono (by first | decide | omega)) (pa_cons (pv 3) (pa_cons pe_int (pa_cons (pe_gint T.i_MOST_RANK) pa_nil)))))) (pss_one ps_never) pss_nil) (pss_cons (ps_fld (pv 0) (pv 1) rfl) (pss_cons (ps_fld (pv 0) (pv 2) rfl) (pss_one (ps_fld (pv 0) (pv 3) rfl))))))), ?_⟩
    obtain ⟨x, dx, n, g, r, rfl, ox, rfl, ok1, rfl, g1, g2, rfl, r1, r2, q⟩ := h
    refine ⟨_, rfl, _, rfl, n, rfl, name1000 ok1, fun H1 s1 => ⟨_, rfl, ?_⟩⟩
    rw [ok1]
    refine iteF ⟨_, rfl, _, _, _, rfl, g, 1, rfl, rfl, .inr ⟨24, rfl, _, rfl, ?_⟩⟩
    rw [decide_eq_true ⟨g1, g2⟩]
    refine iteF ⟨_, rfl, _, _, _, rfl, r, 0, rfl, rfl, .inr ⟨4, rfl, _, rfl, ?_⟩⟩
    rw [decide_eq_true ⟨r1, r2⟩]
    have o1 := s1 _ _ ox
    refine iteF ⟨_, rfl, _, rfl, x, _, dx, _, rfl, o1, T.cls_Founder, T.na_Founder_name, (by decide), ?_⟩
    refine ⟨_, rfl, _, rfl, x, _, dx, _, rfl, upd_same, T.cls_Founder, T.na_Founder_gift, Nat.lt_of_le_of_lt (putF_len (Nat.le_refl _)) (by decide), ?_⟩
    refine ⟨_, rfl, _, rfl, x, _, dx, _, rfl, upd_same, T.cls_Founder, T.na_Founder_rank, Nat.lt_of_le_of_lt (putF_len (putF_len (Nat.le_refl _))) (by decide), ?_⟩
    exact q _ (but1_upd (but1_upd (but1_upd (but_same s1)))) ⟨dx, upd_same⟩
abbrev N_Rule_init : List Str := ["self", "word", "kind", "needs", "rank"]
theorem sc_Rule_init : FnScope N_Rule_init ["self", "word", "kind", "needs", "rank"] (defScope s_Rule_init) := ⟨rfl, rfl, rfl, by decide +kernel, rfl, by decide +kernel, by decide +kernel⟩
theorem ok_Rule_init (T : Txt K mg) : MakeOk P w K mg base 4 "Rule" (He.ga K "Rule") ["self", "word", "kind", "needs", "rank"] (sp5 fun v x0 x1 x2 x3 H Q => ∃ (x dx : Addr) (n k : Str) (g r : Int), v = .ref x ∧ H x = some (.ins (He.ga K "Rule") dx []) ∧ x0 = .str n ∧ nameOk n = true ∧ x1 = .str k ∧ k ∈ kindsOf n ∧ x2 = .int g ∧ 1 ≤ g ∧ g ≤ 24 ∧ x3 = .int r ∧ 0 ≤ r ∧ r ≤ 4 ∧ ∀ H', But1 x H H' → RuleAt K H' x n k g r → Q .non H') := by
  refine make_ok (q := "Rule.__init__") T 16 T.g_Rule T.mk_Rule sc_Rule_init (fun vs H Q E h => ?_) (fun f cdv A outer s H vs Q E hr h => ?_) (fun _ _ _ _ _ _ us hl => match us, hl with | [_, _, _, _, _], _ => rfl)
  · obtain ⟨x0, x1, x2, x3, x4, rfl, _⟩ := h
    rfl
  · have nd := sc_Rule_init.nd
    have hu := hu_of hr
    have hu64 := hu64_of hr
    have c_is_name := ok_is_name (P := P) (w := w) (base := base) T
    have c_is_whole := ok_is_whole (P := P) (w := w) (base := base) T
    have c_kinds_of := ok_kinds_of (K:=K) (P:=P) (w:=w) (base:=base) T
    obtain ⟨x0, x1, x2, x3, x4, rfl, h⟩ := h
    refine ⟨_, (pss_cons (ps_if (pt_not (pt_val (pe_callO c_is_name (hr.mono (by first | decide | omega)) (pa_cons (pv 1) pa_nil)))) (pss_one ps_never) pss_nil) (pss_cons (ps_if (PW.pt (pw_or (pt_not (pt_val (pe_callB (isiK (K := K)) (by rfl) T.b_isinstance boot_isinstance (pa_cons (pv 2) (pa_cons (pe_gty T.b_str boot_str) pa_nil))))) (pw_or1 (pt_cmpR (ninSK (K := K)) (pv 2) (pe_callO c_kinds_of (hr.mono (by first | decide | omega)) (pa_cons (pv 1) pa_nil)) (by with_unfolding_all rfl))))) (pss_one ps_never) pss_nil) (pss_cons (ps_if (pt_not (pt_val (pe_callO c_is_whole (hr.mono (by first | decide | omega)) (pa_cons (pv 3) (pa_cons pe_int (pa_cons (pe_gint T.i_MOST_UNITS_ladders) pa_nil)))))) (pss_one ps_never) pss_nil) (pss_cons (ps_if (pt_not (pt_val (pe_callO c_is_whole (hr.mono (by first | decide | omega)) (pa_cons (pv 4) (pa_cons pe_int (pa_cons (pe_gint T.i_MOST_RANK) pa_nil)))))) (pss_one ps_never) pss_nil) (pss_cons (ps_fld (pv 0) (pv 1) rfl) (pss_cons (ps_fld (pv 0) (pv 2) rfl) (pss_cons (ps_fld (pv 0) (pv 3) rfl) (pss_one (ps_fld (pv 0) (pv 4) rfl))))))))), ?_⟩
    obtain ⟨x, dx, n, k, g, r, rfl, ox, rfl, ok1, rfl, ok2, rfl, g1, g2, rfl, r1, r2, q⟩ := h
    refine ⟨_, rfl, _, rfl, n, rfl, name1000 ok1, fun H1 s1 => ⟨_, rfl, ?_⟩⟩
    rw [ok1]
    refine iteF ⟨_, rfl, _, _, .type "str", _, _, rfl, .ty _, .base (.str _), kit_ty k_str_str, _, rfl, iteF ?_⟩
    refine ⟨_, rfl, _, rfl, _, rfl, n, rfl, fun H2 a s2 hk => ⟨a, _, rfl, .inr hk, rfl, (by simp [flatV]), _, rfl, ?_⟩⟩
    rw [inV_str]
    have hm : decide (k ∈ kindsOf n) = true := decide_eq_true ok2
    refine iteF' (by simp [hm]) ⟨_, rfl, _, _, _, rfl, g, 1, rfl, rfl, .inr ⟨24, rfl, _, rfl, ?_⟩⟩
    rw [decide_eq_true ⟨g1, g2⟩]
    refine iteF ⟨_, rfl, _, _, _, rfl, r, 0, rfl, rfl, .inr ⟨4, rfl, _, rfl, ?_⟩⟩
    rw [decide_eq_true ⟨r1, r2⟩]
    have o1 := s2 _ _ (s1 _ _ ox)
    refine iteF ⟨_, rfl, _, rfl, x, _, dx, _, rfl, o1, T.cls_Rule, T.na_Rule_word, (by decide), ?_⟩
    refine ⟨_, rfl, _, rfl, x, _, dx, _, rfl, upd_same, T.cls_Rule, T.na_Rule_kind, Nat.lt_of_le_of_lt (putF_len (Nat.le_refl _)) (by decide), ?_⟩
    refine ⟨_, rfl, _, rfl, x, _, dx, _, rfl, upd_same, T.cls_Rule, T.na_Rule_needs, Nat.lt_of_le_of_lt (putF_len (putF_len (Nat.le_refl _))) (by decide), ?_⟩
    refine ⟨_, rfl, _, rfl, x, _, dx, _, rfl, upd_same, T.cls_Rule, T.na_Rule_rank, Nat.lt_of_le_of_lt (putF_len (putF_len (putF_len (Nat.le_refl _)))) (by decide), ?_⟩
    exact q _ (but1_upd (but1_upd (but1_upd (but1_upd (but_same (s1.trans s2)))))) ⟨dx, upd_same⟩
theorem Txt.funAt (T : Txt K mg) {x : Str} {st : Stmt} (i : Nat) (e : fn[i]? = some (mkD (x, none) x x st []) := by rfl) : ∃ o fd, K.lookup (He.ga K x) = some o ∧ o.data = .func fd := by
  obtain ⟨fd, F⟩ := T.d.def_ i e
  have F' : FunD K x x (defArgs st) (defBody st) (defScope st) [] [] (He.ga K x) fd := F
  obtain ⟨oc, od, dV, kV, doc, pm, an, cdv, ct, osl, rfl, lk, _⟩ := F'.ex
  exact ⟨_, _, lk, rfl⟩
def sp_are_readers : Sp := sp1 fun v H Q => ∃ (a : Addr) (zs : List Str), v = .ref a ∧ H a = some (.tup (zs.map V.str)) ∧ zs.Nodup ∧ 1 ≤ zs.length ∧ zs.length ≤ 12 ∧ (∀ z ∈ zs, nameOk z = true) ∧ ∀ H', Same H H' → Q (.bl true) H'
theorem CallOk.mono {k k' : Nat} {x : Str} {ps : List Str} {dvs : List V} {sp : Sp} (c : CallOk P w K mg base k x ps dvs sp) (h : k ≤ k') : CallOk P w K mg base k' x ps dvs sp := by
  obtain ⟨f, fd, ds, F, r⟩ := c.ex
  exact ⟨f, fd, ds, F.mono h, r⟩
abbrev N_are_readers : List Str := ["readers"]
theorem sc_are_readers : FnScope N_are_readers ["readers"] (defScope s_are_readers) := ⟨rfl, rfl, rfl, by decide +kernel, rfl, by decide +kernel, by decide +kernel⟩
theorem ok_are_readers (T : Txt K mg) : CallOk P w K mg base 8 "are_readers" ["readers"] [] sp_are_readers := by
  refine call_ok T 18 T.g_are_readers sc_are_readers (fun vs H Q E h => ?_) (fun f cdv A outer s H vs Q E hr h => ?_) (fun _ _ _ _ _ _ us hl => match us, hl with | [_], _ => rfl)
  · obtain ⟨x0, rfl, _⟩ := h
    rfl
  · have nd := sc_are_readers.nd
    have hu := hu_of hr
    have hu64 := hu64_of hr
    have c_are_all := ok_are_all (P := P) (w := w) (base := base) T
    have c_are_unlike := ok_are_unlike (P := P) (w := w) (base := base) T
    have c_is_name := ok_is_name (P := P) (w := w) (base := base) T
    obtain ⟨x0, rfl, h⟩ := h
    refine ⟨_, (pss_cons (ps_if (PW.pt (pw_or (pt_not (pt_val (pe_callO c_are_all (hr.mono (by first | decide | omega)) (pa_cons (pv 0) (pa_cons (pe_gref T.g_is_name) pa_nil))))) (pw_or1 (pt_not (pt_chain op_le op_le pe_int (pe_callB (lenSK (K := K)) (by rfl) T.b_len boot_len (pa_cons (pv 0) pa_nil)) (pe_gint T.i_MOST_READERS)))))) (pss_one (ps_ret pe_bl)) pss_nil) (pss_one (ps_ret (pe_callO c_are_unlike (hr.mono (by first | decide | omega)) (pa_cons (pv 0) pa_nil))))), ?_⟩
    obtain ⟨a, zs, rfl, e, nz, l1, l12, ok, q⟩ := h
    have F := callee_of (c_is_name.mono (show 2 ≤ 6 by decide)) (T.funAt (st := s_is_name) 5) T.g_is_name
    refine ⟨_, rfl, _, _, rfl, a, _, _, _, _, rfl, e, rfl, F, trivial, ?_, ?_, fun H1 s1 => ⟨_, rfl, iteF ?_⟩⟩
    · intro v hv H1 Q1 s1 q1
      obtain ⟨z, hz, rfl⟩ := List.mem_map.mp hv
      refine ⟨_, rfl, z, rfl, name1000 (ok z hz), fun H2 s2 => ?_⟩
      rw [ok z hz]
      exact q1 H2 s2
    · rw [List.length_map]
      omega
    have e1 := s1 _ _ e
    refine ⟨_, rfl, _, _, rfl, .inr (SqT.of e1), _, _, rfl, rfl, _, rfl, ?_⟩
    rw [decide_eq_true (show (1 : Int) ≤ (zs.map V.str).length by rw [List.length_map]; omega)]
    refine iteT ⟨_, _, rfl, rfl, _, rfl, ?_⟩
    rw [decide_eq_true (show ((zs.map V.str).length : Int) ≤ 12 by rw [List.length_map]; omega)]
    refine iteF ⟨_, rfl, _, rfl, a, zs, rfl, .inr e1, nz, by omega, fun H2 s2 => q _ (s1.trans s2)⟩
def readersDt (r : Option (List Str)) : Dt := match r with | none => .non | some zs => .tup (zs.map Dt.str)
def readersOk (r : Option (List Str)) : Prop := match r with | none => True | some zs => zs.Nodup ∧ 1 ≤ zs.length ∧ zs.length ≤ 12 ∧ ∀ z ∈ zs, nameOk z = true
abbrev N_Thread_init : List Str := ["self", "name", "readers"]
theorem sc_Thread_init : FnScope N_Thread_init ["self", "name", "readers"] (defScope s_Thread_init) := ⟨rfl, rfl, rfl, by decide +kernel, rfl, by decide +kernel, by decide +kernel⟩
theorem ok_Thread_init (T : Txt K mg) : MakeOk P w K mg base 9 "Thread" (He.ga K "Thread") ["self", "name", "readers"] (sp3 fun v x0 x1 H Q => ∃ (x dx : Addr) (n : Str) (r : Option (List Str)), v = .ref x ∧ H x = some (.ins (He.ga K "Thread") dx []) ∧ x0 = .str n ∧ nameOk n = true ∧ Tv H (readersDt r) x1 ∧ readersOk r ∧ ∀ H', But1 x H H' → ThreadAt K H' x n → Q .non H') := by
  refine make_ok (q := "Thread.__init__") T 19 T.g_Thread T.mk_Thread sc_Thread_init (fun vs H Q E h => ?_) (fun f cdv A outer s H vs Q E hr h => ?_) (fun _ _ _ _ _ _ us hl => match us, hl with | [_, _, _], _ => rfl)
  · obtain ⟨x0, x1, x2, rfl, _⟩ := h
    rfl
  · have nd := sc_Thread_init.nd
    have hu := hu_of hr
    have hu64 := hu64_of hr
    have c_is_name := ok_is_name (P := P) (w := w) (base := base) T
    have c_are_readers := ok_are_readers (P := P) (w := w) (base := base) T
    have c_as_tuples := ok_as_tuples (P:=P) (w:=w) (base:=base) T 3
    obtain ⟨x0, x1, x2, rfl, h⟩ := h
    refine ⟨_, (pss_cons (ps_if (pt_not (pt_val (pe_callO c_is_name (hr.mono (by first | decide | omega)) (pa_cons (pv 1) pa_nil)))) (pss_one ps_never) pss_nil) (pss_cons (ps_if (PW.pt (pw_and (pt_cmpR op_notN (pv 2) pe_non (nomark _)) (pw_and1 (pt_not (pt_val (pe_callO c_are_readers (hr.mono (by first | decide | omega)) (pa_cons (pv 2) pa_nil))))))) (pss_one ps_never) pss_nil) (pss_cons (ps_fld (pv 0) (pv 1) rfl) (pss_one (ps_fld (pv 0) (pe_callO c_as_tuples (hr.mono (by first | decide | omega)) (pa_cons (pv 2) pa_nil)) rfl))))), ?_⟩
    obtain ⟨x, dx, n, r, rfl, ox, rfl, ok1, tv, ok2, q⟩ := h
    refine ⟨_, rfl, _, rfl, n, rfl, name1000 ok1, fun H1 s1 => ⟨_, rfl, ?_⟩⟩
    rw [ok1]
    have tv1 := tv.keep (tk_same s1)
    have tvz := tv
    refine iteF ?_
    cases r with
    | none =>
      obtain rfl : x2 = .non := tv
      obtain ⟨H2, eH⟩ : ∃ H2, H2 = H1 := ⟨_, rfl⟩
      have s2 : Same H1 H2 := by rw [eH]; exact fun _ _ z => z
      have ok3 : DtOk 3 (readersDt none) := trivial
      refine ⟨_, rfl, rfl, _, rfl, iteF ?_⟩
      rw [← eH]
      have s12 := s1.trans s2
      have o2 := s12 _ _ ox
      refine ⟨_, rfl, _, rfl, x, _, dx, _, rfl, o2, T.cls_Thread, T.na_Thread_name, (by decide), ?_⟩
      have k2 : Tk H2 (upd H2 x (.ins (He.ga K "Thread") dx (putF "name" (.str n) []))) := tk_mut o2 (by intro _ z; cases z)
      refine ⟨_, rfl, _, rfl, _, Tv.keep k2 (tvz.keep (tk_same s12)), ok3, fun H3 v3 s3 tv3 => ?_⟩
      have o3 := s3 _ _ upd_same
      refine ⟨_, rfl, x, _, dx, _, rfl, o3, T.cls_Thread, T.na_Thread_readers, Nat.lt_of_le_of_lt (putF_len (Nat.le_refl _)) (by decide), ?_⟩
      exact q _ (but1_upd ((but1_upd (but_same s12)).trans (but_same s3))) ⟨dx, _, upd_same⟩
    | some zs =>
      obtain ⟨b, xs, rfl, eb, tx⟩ := tv1
      obtain ⟨z1, z2, z3, z4⟩ := ok2
      have exs : xs = zs.map V.str := TvAll.strs.mp tx
      subst exs
      have ok3 : DtOk 3 (readersDt (some zs)) := strs_ok (by omega)
      refine ⟨_, rfl, rfl, _, rfl, iteT ?_⟩
      refine ⟨_, rfl, _, rfl, b, zs, rfl, eb, z1, z2, z3, z4, fun H2 s2 => ⟨_, rfl, iteF ?_⟩⟩
      have s12 := s1.trans s2
      have o2 := s12 _ _ ox
      refine ⟨_, rfl, _, rfl, x, _, dx, _, rfl, o2, T.cls_Thread, T.na_Thread_name, (by decide), ?_⟩
      have k2 : Tk H2 (upd H2 x (.ins (He.ga K "Thread") dx (putF "name" (.str n) []))) := tk_mut o2 (by intro _ z; cases z)
      refine ⟨_, rfl, _, rfl, _, Tv.keep k2 (tvz.keep (tk_same s12)), ok3, fun H3 v3 s3 tv3 => ?_⟩
      have o3 := s3 _ _ upd_same
      refine ⟨_, rfl, x, _, dx, _, rfl, o3, T.cls_Thread, T.na_Thread_readers, Nat.lt_of_le_of_lt (putF_len (Nat.le_refl _)) (by decide), ?_⟩
      exact q _ (but1_upd ((but1_upd (but_same s12)).trans (but_same s3))) ⟨dx, _, upd_same⟩
end
end Lv
set_option maxHeartbeats 4000000
namespace Lv
open PySem PySem.Spec PyProof.Rows L2
abbrev codA (K : PySem.W.Frag) (x : Str) : Addr := (He.cT K (x, none)).1
abbrev tabA (K : PySem.W.Frag) (x : Str) : Addr := (He.cT K (x, none)).2
def TabsOk (K : PySem.W.Frag) (mg : Str → Option Value) (base : Heap) : Prop := ∀ p ∈ tf, LamX.TabB base mg (He.cT K p).1 (He.cT K p).2
abbrev lamQ (x : Str) : Str := x ++ ".<locals>." ++ "<lambda>"
abbrev TabH (K : PySem.W.Frag) (x : Str) (H : Hp) : Prop := LamX.TabS H (tabA K x) (lamQ x)
section
variable {P : Program} {w : World} {K : PySem.W.Frag} {mg : Str → Option Value} {base : Heap}
theorem call_okT {x : Str} {st : Stmt} {N ps : List Str} {k : Nat} {sp : Sp} (T : Txt K mg) (i : Nat) (hg : mg x = some (.ref (He.ga K x))) (S : FnScope N ps (defScope st))
    (len : ∀ vs H Q E, sp vs H Q E → vs.length = ps.length)
    (hbody : ∀ (f : Addr) (A : Around) (outer : List Env) (s : Shared) (H : Hp) (vs : List V) (Q : VK) (E : XK), Room k (A.deeper (envOfC x (defScope st) s.heap.objs.size f (.ref (codA K x)))) → sp vs H Q E →
      ∃ t, PSs (cxOf CX0 P w K mg base N x (defScope st) f (.ref (codA K x)) A outer s H E).nox (defBody st) t ∧ t { nx := fun _ H' => Q .non H', rt := Q } (start N vs) H)
    (hb : ∀ (kV doc pm : Value) (an : Option Addr) (cdv ct : Value) (us : List Value), us.length = ps.length → bindArgs (PySem.W.fnOf x x (defArgs st) (defBody st) (defScope st) .none kV doc pm an cdv ct) ⟨us, []⟩ = pure (ps.zip us))
    (e : fn[i]? = some (mkD (x, none) x x st []) := by rfl) : CallOk P w K mg base (k + 1) x ps [] sp := by
  obtain ⟨fd, F⟩ := T.d.def_ i e
  have F' : FunD K x x (defArgs st) (defBody st) (defScope st) [] [] (He.ga K x) fd := F
  refine ⟨He.ga K x, fd, [], ?_, hg, F'.kp, F'.bindsN hb, .nil⟩
  obtain ⟨oc, od, dV, kV, doc, pm, an, cdv, ct, osl, rfl, lk, hcd, _, _⟩ := F'.ex
  obtain ⟨c, rfl⟩ := He.codeIn_ref hcd
  have hc : codA K x = c := He.codeOf_eq (p := (x, none)) lk rfl
  subst hc
  refine fn_of lk hcd S len fun A outer s H vs Q E hr hsp => ?_
  obtain ⟨t, ht, q⟩ := hbody (He.ga K x) A outer s H vs Q E hr hsp
  exact ⟨t, PSs.nox ht, q⟩
def ixMap {α : Type} (l : List α) (f : α → V) (i : Nat) : V := match l[i]? with
  | some e => f e
  | none => .non
theorem ixMap_at {α : Type} {l : List α} {f : α → V} {i : Nat} {x : α} (h : l[i]? = some x) : ixMap l f i = f x := by
  unfold ixMap
  rw [h]
theorem rf_map {α : Type} {l : List α} {f : α → V} {m : List V} {n : Nat} {H : Hp} (h : RF (ixMap l f) n m H) (hn : n = l.length) : m = l.map f := by
  subst hn
  have h : m = _ := h
  rw [h]
  exact map_range fun j x hj => ixMap_at hj
theorem callee_lam1 {k : Nat} {f c' : Addr} {q : Str} {params : Arguments} {body : Expr} {scope : Scope} {N ps : List Str} {sp : Sp} {H1 : Hp} (_ : LamAt H1 f c' q params body scope) (S : FnScope N ps scope) (len : ∀ vs H Q E, sp vs H Q E → vs.length = ps.length)
    (hb : ∀ (pm cv ctv : Value) (us : List Value), us.length = ps.length → bindArgs (PySem.W.kla_fn "<lambda>" q params body scope [] pm cv ctv) ⟨us, []⟩ = pure (ps.zip us))
    (hbody : ∀ (A : Around) (outer : List Env) (s : Shared) (H : Hp) (vs : List V) (Q : VK), Room k (A.deeper (envOfC q scope s.heap.objs.size f (.ref c'))) → sp vs H Q E0 →
      ∃ te, PE (cxOf CX0 P w K mg base N q scope f (.ref c') A outer s H E0).nox body te ∧ te (L2.start N vs) H Q) :
    Callee P w K mg base (k + 1) f (fun H => LamAt H f c' q params body scope) sp := callee_lam S len hb hbody
structure FRow where
  a : Addr
  n : Str
  g : Int
  r : Int
def FRow.At (K : PySem.W.Frag) (H : Hp) (e : FRow) : Prop := FounderAt K H e.a e.n e.g e.r
theorem FRow.keep {K : PySem.W.Frag} {H H' : Hp} (k : ∀ b o, H b = some o → (∃ C dx fs, o = .ins C dx fs) → H' b = some o) {e : FRow} (h : FRow.At K H e) : FRow.At K H' e := by
  obtain ⟨dx, o⟩ := h
  exact ⟨dx, k _ _ o ⟨_, _, _, rfl⟩⟩
theorem FRow.ins {K : PySem.W.Frag} {H : Hp} {e : FRow} (h : FRow.At K H e) : ∃ dx fs, H e.a = some (.ins (He.ga K "Founder") dx fs) := by
  obtain ⟨dx, o⟩ := h
  exact ⟨dx, _, o⟩
theorem FRow.at {K : PySem.W.Frag} {H : Hp} {e : FRow} (h : FRow.At K H e) : ∃ dx, True ∧ H e.a = some (.ins (He.ga K "Founder") dx (fl_Founder (.str e.n) (.int e.g) (.int e.r))) := by
  obtain ⟨dx, o⟩ := h
  exact ⟨dx, trivial, o⟩
def sp_isC (K : PySem.W.Frag) (c : Str) : Sp := sp1 fun v H Q => ∃ a dx fs, v = .ref a ∧ H a = some (.ins (He.ga K c) dx fs) ∧ Q (.bl true) H
def sp_are_founders (K : PySem.W.Frag) : Sp := sp2 fun v t H Q => ∃ (a : Addr) (l : List FRow) (top : Nat), v = .ref a ∧ H a = some (.tup (l.map fun e => .ref e.a)) ∧ (∀ e ∈ l, FRow.At K H e) ∧ t = .int top ∧ (l.map (·.n)).Nodup ∧ 1 ≤ l.length ∧ l.length ≤ 1000 ∧ (l.map (·.g)).sum ≤ 24 ∧ (∀ e ∈ l, e.r ≤ top) ∧
  TabH K "are_founders" H ∧ ∀ H', But1 (tabA K "are_founders") H H' → TabH K "are_founders" H' → Q (.bl true) H'
theorem ins_nt {c x : Addr} {H H' : Hp} {P' : Addr} {C dx : Addr} {fs : List (Str × V)} {ps : Array Value} (b : But1 P' H H') (hp : H P' = some (.tbl ps)) (o : H x = some (.ins C dx fs)) : H' x = some (.ins C dx fs) := b x _ o fun z => by
  rw [z, hp] at o
  cases o
theorem tab_of {K : PySem.W.Frag} {x : Str} {H : Hp} (t : TabH K x H) : ∃ ps, H (tabA K x) = some (.tbl ps) := ⟨t.choose, t.choose_spec.1⟩
abbrev N_are_founders : List Str := ["founders", "top", "founder", "one"]
theorem sc_are_founders : FnScope N_are_founders ["founders", "top"] (defScope s_are_founders) := ⟨rfl, rfl, rfl, by decide +kernel, rfl, by decide +kernel, by decide +kernel⟩
theorem ok_are_founders (T : Txt K mg) (TBs : TabsOk K mg base) : CallOk P w K mg base 9 "are_founders" ["founders", "top"] [] (sp_are_founders K) := by
  refine call_okT T 21 T.g_are_founders sc_are_founders (fun vs H Q E h => ?_) (fun f A outer s H vs Q E hr h => ?_) (fun _ _ _ _ _ _ us hl => match us, hl with | [_, _], _ => rfl)
  · obtain ⟨x0, x1, rfl, _⟩ := h
    rfl
  · have nd := sc_are_founders.nd
    have hu := hu_of hr
    have hu64 := hu64_of hr
    have TBx := TBs ("are_founders", none) (by simp [tf])
    have c_are_all := ok_are_all (P := P) (w := w) (base := base) T
    have c_are_unlike := ok_are_unlike (P := P) (w := w) (base := base) T
    obtain ⟨x0, x1, rfl, h⟩ := h
    refine ⟨_, (pss_cons (ps_if (PW.pt (pw_or (pt_not (pt_val (pe_callO c_are_all (hr.mono (by first | decide | omega)) (pa_cons (pv 0) (pa_cons (pe_lamV (c := codA K "are_founders") (P := tabA K "are_founders") TBx rfl rfl (by decide +kernel)) pa_nil))))) (pw_or1 (pt_cmpR op_eq (pe_callB (lenSK (K := K)) (by rfl) T.b_len boot_len (pa_cons (pv 0) pa_nil)) pe_int (nomark _))))) (pss_one (ps_ret pe_bl)) pss_nil) (pss_cons (ps_if (pt_not (pt_val (pe_callO c_are_unlike (hr.mono (by first | decide | omega)) (pa_cons (pe_lc (own := [("founder", 2)]) (g := (gName 2)) (tt := tYes) rfl nd (pi_tup (pv 0)) (blkOk_by (own := [("founder", 2)]) (N := N_are_founders) (sc := defScope s_are_founders) (by decide +kernel)) (fun _ _ _ _ _ => (pg_name (i := 2) nd rfl (Or.inl rfl))) (fun _ _ _ _ _ => pts_nil) (fun _ _ _ _ _ => (fldK (K := K) (pv 2) rfl))) pa_nil)))) (pss_one (ps_ret pe_bl)) pss_nil) (pss_one (ps_ret (pe_and (pe_cmpR op_le (pe_callB (sumK (K := K)) (by rfl) T.b_sum boot_sum (pa_cons (pe_lc (own := [("founder", 2)]) (g := (gName 2)) (tt := tYes) rfl nd (pi_tup (pv 0)) (blkOk_by (own := [("founder", 2)]) (N := N_are_founders) (sc := defScope s_are_founders) (by decide +kernel)) (fun _ _ _ _ _ => (pg_name (i := 2) nd rfl (Or.inl rfl))) (fun _ _ _ _ _ => pts_nil) (fun _ _ _ _ _ => (fldK (K := K) (pv 2) rfl))) pa_nil)) (pe_gint T.i_MOST_UNITS_ladders) (nomark _)) (pe_one (pe_callB (allK (K := K)) (by rfl) T.b_all boot_all (pa_cons (pe_lc (own := [("one", 3)]) (g := (gName 3)) (tt := tYes) rfl nd (pi_tup (pv 0)) (blkOk_by (own := [("one", 3)]) (N := N_are_founders) (sc := defScope s_are_founders) (by decide +kernel)) (fun _ _ _ _ _ => (pg_name (i := 3) nd rfl (Or.inl rfl))) (fun _ _ _ _ _ => pts_nil) (fun _ _ _ _ _ => (pe_cmpR op_le (fldK (K := K) (pv 3) rfl) (pv 1) (nomark _)))) pa_nil)))))))), ?_⟩
    obtain ⟨a, l, top, rfl, e, hat, rfl, nz, l1, l2, sm, rk, tb, q⟩ := h
    obtain ⟨ps, hps⟩ := tab_of tb
    refine ⟨_, rfl, tb, fun fl c' H1 b1 tb1 lam => ?_⟩
    have F := callee_lam1 (P := P) (w := w) (K := K) (mg := mg) (base := base) (k := 5) (N := ["one"]) (ps := ["one"]) (sp := sp_isC K "Founder") lam ⟨rfl, rfl, rfl, by decide +kernel, rfl, by decide +kernel, by decide +kernel⟩ (fun vs H Q E h => by
        obtain ⟨_, rfl, _⟩ := h
        rfl) (fun pm cv ctv us hl => match us, hl with | [_], _ => rfl) (fun A' outer' s' H' vs' Q' hr' h' => by
        obtain ⟨_, rfl, x, dx, fs, rfl, o, q'⟩ := h'
        exact ⟨_, pe_callB (C8.call_isC (T.ins T.cls_Founder (by decide +kernel))) (by rfl) T.b_isinstance boot_isinstance (pa_cons (pv 0) (pa_cons (pe_gref T.g_Founder) pa_nil)), _, rfl, x, dx, fs, rfl, o, q'⟩)
    have keep1 : ∀ b o, H b = some o → (∀ ps, o ≠ .tbl ps) → H1 b = some o := fun b o z n => b1 b o z fun y => n ps (Option.some.inj (z.symm.trans (y ▸ hps)))
    have e1 := keep1 _ _ e (by intro _ z; cases z)
    have hat1 : ∀ e ∈ l, FRow.At K H1 e := fun e he => FRow.keep (fun b o z y => keep1 b o z (by obtain ⟨_, _, _, rfl⟩ := y; intro _ z; cases z)) (hat e he)
    refine ⟨_, _, rfl, a, _, fl, _, sp_isC K "Founder", rfl, e1, rfl, F, lam, ?_, (by rw [List.length_map]; omega), fun H2 s2 => ⟨_, rfl, iteF ?_⟩⟩
    · intro v hv H3 Q3 s3 q3
      obtain ⟨r, hr, rfl⟩ := List.mem_map.mp hv
      obtain ⟨dx, fs, o⟩ := FRow.ins (hat1 r hr)
      exact ⟨_, rfl, _, dx, _, rfl, s3 _ _ o, q3 _ (fun _ _ z => z)⟩
    have e2 := s2 _ _ e1
    have hat2 : ∀ e ∈ l, FRow.At K H2 e := fun e he => FRow.keep (fun b o z _ => s2 _ _ z) (hat1 e he)
    have fin : ∀ H', Same H2 H' → Q (.bl true) H' := fun H' s' => q H' ((b1.trans (but_same s2)).trans (but_same s')) (tb1.ext (s2.trans s'))
    refine ⟨_, rfl, _, _, rfl, .inr (SqT.of e2), rfl, _, rfl, ?_⟩
    rw [decide_eq_false (show ¬ V.int ((l.map fun e => V.ref e.a).length : Nat) = V.int 0 by intro z; rw [List.length_map] at z; have z := V.int.inj z; omega)]
    refine iteF ⟨_, rfl, a, rfl, ⟨_, SqT.of e2⟩, fun D2 hD2 => lc_rel walk_tup (RF (ixMap l fun e => V.str e.n)) hD2 (fun H' s => SqT.of (s _ _ e2)) rfl (by
        rintro i x m H3 H4 hi hl2 s e3 r ⟨rfl, hx2⟩
        obtain ⟨n, hn, rfl⟩ := getMap hx2
        obtain ⟨dx, RR, o⟩ := FRow.at (hat2 n (List.mem_of_getElem? hn))
        have o3 := s _ _ o
        rw [List.length_map] at hi
        refine ⟨rfl, _, rfl, _, _, _, _, _, rfl, o3, T.cls_Founder, T.na_Founder_name, fl_Founder_name .., lc_takeF hD2 (Nat.lt_of_lt_of_le (show i < 1001 by omega) (by decide)) hl2 s e3 r ?_⟩
        rw [ixMap_at hn]) ?_⟩
    intro m1 H5 hl5 s5 e5 r5
    have r5 := rf_map r5 (by simp)
    have s25 := s5
    have e6 := s5 _ _ e2
    have hat6 : ∀ e ∈ l, FRow.At K H5 e := fun e he => FRow.keep (fun b o z _ => s5 _ _ z) (hat2 e he)
    refine ⟨_, rfl, D2, l.map (·.n), rfl, .inl ?_, nz, (by rw [List.length_map]; exact l2), fun H6 s6 => ⟨_, rfl, iteF ?_⟩⟩
    · rw [e5, r5, List.map_map]
      rfl
    have e7 := s6 _ _ e6
    have hat7 : ∀ e ∈ l, FRow.At K H6 e := fun e he => FRow.keep (fun b o z _ => s6 _ _ z) (hat6 e he)
    refine ⟨_, rfl, a, rfl, ⟨_, SqT.of e7⟩, fun D7 hD7 => lc_rel walk_tup (RF (ixMap l fun e => V.int e.g)) hD7 (fun H' s => SqT.of (s _ _ e7)) rfl (by
        rintro i x m H3 H4 hi hl2 s e3 r ⟨rfl, hx2⟩
        obtain ⟨n, hn, rfl⟩ := getMap hx2
        obtain ⟨dx, RR, o⟩ := FRow.at (hat7 n (List.mem_of_getElem? hn))
        have o3 := s _ _ o
        rw [List.length_map] at hi
        refine ⟨rfl, _, rfl, _, _, _, _, _, rfl, o3, T.cls_Founder, T.na_Founder_gift, fl_Founder_gift .., lc_takeF hD7 (Nat.lt_of_lt_of_le (show i < 1001 by omega) (by decide)) hl2 s e3 r ?_⟩
        rw [ixMap_at hn]) ?_⟩
    intro m2 H8 hl8 s8 e8 r8
    have r8 := rf_map r8 (by simp)
    have e9 := s8 _ _ e7
    have hat9 : ∀ e ∈ l, FRow.At K H8 e := fun e he => FRow.keep (fun b o z _ => s8 _ _ z) (hat7 e he)
    refine ⟨D7, l.map (·.g), rfl, SqL.of (by rw [e8, r8, List.map_map]; rfl), _, _, rfl, rfl, _, rfl, ?_⟩
    rw [decide_eq_true sm]
    refine iteT ⟨_, rfl, a, rfl, ⟨_, SqT.of e9⟩, fun D9 hD9 => lc_rel walk_tup (RF (ixMap l fun e => V.bl (decide (e.r ≤ top)))) hD9 (fun H' s => SqT.of (s _ _ e9)) rfl (by
        rintro i x m H3 H4 hi hl2 s e3 r ⟨rfl, hx2⟩
        obtain ⟨n, hn, rfl⟩ := getMap hx2
        obtain ⟨dx, RR, o⟩ := FRow.at (hat9 n (List.mem_of_getElem? hn))
        have o3 := s _ _ o
        rw [List.length_map] at hi
        refine ⟨rfl, _, rfl, _, _, _, _, _, rfl, o3, T.cls_Founder, T.na_Founder_rank, fl_Founder_rank .., _, rfl, _, _, rfl, rfl, lc_takeF hD9 (Nat.lt_of_lt_of_le (show i < 1001 by omega) (by decide)) hl2 s e3 r ?_⟩
        rw [ixMap_at hn]) ?_⟩
    intro m3 H10 hl10 s10 e10 r10
    have r10 := rf_map r10 (by simp)
    refine ⟨D9, l.map fun e => decide (e.r ≤ (top : Int)), rfl, SqL.of (by rw [e10, r10, List.map_map]; rfl), ?_⟩
    rw [show (l.map fun e => decide (e.r ≤ (top : Int))).all id = true from by
      rw [List.all_map, List.all_eq_true]
      exact fun x hx => decide_eq_true (rk x hx)]
    exact fin _ (((s5.trans s6).trans s8).trans s10)
end
end Lv
set_option maxHeartbeats 4000000
namespace Lv
open PySem PySem.Spec PyProof.Rows L2
section
variable {P : Program} {w : World} {K : PySem.W.Frag} {mg : Str → Option Value} {base : Heap}
structure RRow where
  a : Addr
  w : Str
  k : Str
  n : Int
  r : Int
def RRow.At (K : PySem.W.Frag) (H : Hp) (e : RRow) : Prop := ∃ (dx : Addr) (_ : Unit), H e.a = some (.ins (He.ga K "Rule") dx (fl_Rule (.str e.w) (.str e.k) (.int e.n) (.int e.r)))
theorem RRow.keep {K : PySem.W.Frag} {H H' : Hp} (k : ∀ b o, H b = some o → (∃ C dx fs, o = .ins C dx fs) → H' b = some o) {e : RRow} (h : RRow.At K H e) : RRow.At K H' e := by
  obtain ⟨dx, v, o⟩ := h
  exact ⟨dx, v, k _ _ o ⟨_, _, _, rfl⟩⟩
theorem RRow.ins {K : PySem.W.Frag} {H : Hp} {e : RRow} (h : RRow.At K H e) : ∃ dx fs, H e.a = some (.ins (He.ga K "Rule") dx fs) := by
  obtain ⟨dx, v, o⟩ := h
  exact ⟨dx, _, o⟩
theorem RRow.at {K : PySem.W.Frag} {H : Hp} {e : RRow} (h : RRow.At K H e) : ∃ (dx : Addr) (_ : Unit), H e.a = some (.ins (He.ga K "Rule") dx (fl_Rule (.str e.w) (.str e.k) (.int e.n) (.int e.r))) := by
  obtain ⟨dx, v, o⟩ := h
  exact ⟨dx, v, o⟩
structure TRow where
  a : Addr
  n : Str
def TRow.At (K : PySem.W.Frag) (H : Hp) (e : TRow) : Prop := ∃ (dx : Addr) (v : V), H e.a = some (.ins (He.ga K "Thread") dx (fl_Thread (.str e.n) v))
theorem TRow.keep {K : PySem.W.Frag} {H H' : Hp} (k : ∀ b o, H b = some o → (∃ C dx fs, o = .ins C dx fs) → H' b = some o) {e : TRow} (h : TRow.At K H e) : TRow.At K H' e := by
  obtain ⟨dx, v, o⟩ := h
  exact ⟨dx, v, k _ _ o ⟨_, _, _, rfl⟩⟩
theorem TRow.ins {K : PySem.W.Frag} {H : Hp} {e : TRow} (h : TRow.At K H e) : ∃ dx fs, H e.a = some (.ins (He.ga K "Thread") dx fs) := by
  obtain ⟨dx, v, o⟩ := h
  exact ⟨dx, _, o⟩
theorem TRow.at {K : PySem.W.Frag} {H : Hp} {e : TRow} (h : TRow.At K H e) : ∃ dx v, H e.a = some (.ins (He.ga K "Thread") dx (fl_Thread (.str e.n) v)) := by
  obtain ⟨dx, v, o⟩ := h
  exact ⟨dx, v, o⟩
def sp_are_rules (K : PySem.W.Frag) : Sp := sp2 fun v t H Q => ∃ (a : Addr) (l : List RRow) (top : Nat), v = .ref a ∧ H a = some (.tup (l.map fun e => .ref e.a)) ∧ (∀ e ∈ l, RRow.At K H e) ∧ t = .int top ∧ (l.map (·.w)).Nodup ∧ l.length ≤ 12 ∧ (∀ e ∈ l, e.r ≤ top) ∧
  TabH K "are_rules" H ∧ ∀ H', But1 (tabA K "are_rules") H H' → TabH K "are_rules" H' → Q (.bl true) H'
def sp_are_threads (K : PySem.W.Frag) : Sp := sp1 fun v H Q => ∃ (a : Addr) (l : List TRow), v = .ref a ∧ H a = some (.tup (l.map fun e => .ref e.a)) ∧ (∀ e ∈ l, TRow.At K H e) ∧ (l.map (·.n)).Nodup ∧ l.length ≤ 12 ∧
  TabH K "are_threads" H ∧ ∀ H', But1 (tabA K "are_threads") H H' → TabH K "are_threads" H' → Q (.bl true) H'
abbrev N_are_rules : List Str := ["rules", "top", "rule"]
theorem sc_are_rules : FnScope N_are_rules ["rules", "top"] (defScope s_are_rules) := ⟨rfl, rfl, rfl, by decide +kernel, rfl, by decide +kernel, by decide +kernel⟩
theorem ok_are_rules (T : Txt K mg) (TBs : TabsOk K mg base) : CallOk P w K mg base 9 "are_rules" ["rules", "top"] [] (sp_are_rules K) := by
  refine call_okT T 22 T.g_are_rules sc_are_rules (fun vs H Q E h => ?_) (fun f A outer s H vs Q E hr h => ?_) (fun _ _ _ _ _ _ us hl => match us, hl with | [_, _], _ => rfl)
  · obtain ⟨x0, x1, rfl, _⟩ := h
    rfl
  · have nd := sc_are_rules.nd
    have hu := hu_of hr
    have hu64 := hu64_of hr
    have TBx := TBs ("are_rules", none) (by simp [tf])
    have c_are_all := ok_are_all (P := P) (w := w) (base := base) T
    have c_are_unlike := ok_are_unlike (P := P) (w := w) (base := base) T
    obtain ⟨x0, x1, rfl, h⟩ := h
    refine ⟨_, (pss_cons (ps_if (PW.pt (pw_or (pt_not (pt_val (pe_callO c_are_all (hr.mono (by first | decide | omega)) (pa_cons (pv 0) (pa_cons (pe_lamV (c := codA K "are_rules") (P := tabA K "are_rules") TBx rfl rfl (by decide +kernel)) pa_nil))))) (pw_or1 (pt_cmpR op_gt (pe_callB (lenSK (K := K)) (by rfl) T.b_len boot_len (pa_cons (pv 0) pa_nil)) (pe_gint T.i_MOST_RULES) (nomark _))))) (pss_one (ps_ret pe_bl)) pss_nil) (pss_one (ps_ret (pe_and (pe_callO c_are_unlike (hr.mono (by first | decide | omega)) (pa_cons (pe_lc (own := [("rule", 2)]) (g := (gName 2)) (tt := tYes) rfl nd (pi_tup (pv 0)) (blkOk_by (own := [("rule", 2)]) (N := N_are_rules) (sc := defScope s_are_rules) (by decide +kernel)) (fun _ _ _ _ _ => (pg_name (i := 2) nd rfl (Or.inl rfl))) (fun _ _ _ _ _ => pts_nil) (fun _ _ _ _ _ => (fldK (K := K) (pv 2) rfl))) pa_nil)) (pe_one (pe_callB (allK (K := K)) (by rfl) T.b_all boot_all (pa_cons (pe_lc (own := [("rule", 2)]) (g := (gName 2)) (tt := tYes) rfl nd (pi_tup (pv 0)) (blkOk_by (own := [("rule", 2)]) (N := N_are_rules) (sc := defScope s_are_rules) (by decide +kernel)) (fun _ _ _ _ _ => (pg_name (i := 2) nd rfl (Or.inl rfl))) (fun _ _ _ _ _ => pts_nil) (fun _ _ _ _ _ => (pe_cmpR op_le (fldK (K := K) (pv 2) rfl) (pv 1) (nomark _)))) pa_nil))))))), ?_⟩
    obtain ⟨a, l, top, rfl, e, hat, rfl, nz, l2, rk, tb, q⟩ := h
    obtain ⟨ps, hps⟩ := tab_of tb
    refine ⟨_, rfl, tb, fun fl c' H1 b1 tb1 lam => ?_⟩
    have F := callee_lam1 (P := P) (w := w) (K := K) (mg := mg) (base := base) (k := 5) (N := ["one"]) (ps := ["one"]) (sp := sp_isC K "Rule") lam ⟨rfl, rfl, rfl, by decide +kernel, rfl, by decide +kernel, by decide +kernel⟩ (fun vs H Q E h => by
        obtain ⟨_, rfl, _⟩ := h
        rfl) (fun pm cv ctv us hl => match us, hl with | [_], _ => rfl) (fun A' outer' s' H' vs' Q' hr' h' => by
        obtain ⟨_, rfl, x, dx, fs, rfl, o, q'⟩ := h'
        exact ⟨_, pe_callB (C8.call_isC (T.ins T.cls_Rule (by decide +kernel))) (by rfl) T.b_isinstance boot_isinstance (pa_cons (pv 0) (pa_cons (pe_gref T.g_Rule) pa_nil)), _, rfl, x, dx, fs, rfl, o, q'⟩)
    have keep1 : ∀ b o, H b = some o → (∀ ps, o ≠ .tbl ps) → H1 b = some o := fun b o z n => b1 b o z fun y => n ps (Option.some.inj (z.symm.trans (y ▸ hps)))
    have e1 := keep1 _ _ e (by intro _ z; cases z)
    have hat1 : ∀ e ∈ l, RRow.At K H1 e := fun e he => RRow.keep (fun b o z y => keep1 b o z (by obtain ⟨_, _, _, rfl⟩ := y; intro _ z; cases z)) (hat e he)
    refine ⟨_, _, rfl, a, _, fl, _, sp_isC K "Rule", rfl, e1, rfl, F, lam, ?_, (by rw [List.length_map]; omega), fun H2 s2 => ⟨_, rfl, iteF ?_⟩⟩
    · intro v hv H3 Q3 s3 q3
      obtain ⟨r, hr, rfl⟩ := List.mem_map.mp hv
      obtain ⟨dx, fs, o⟩ := RRow.ins (hat1 r hr)
      exact ⟨_, rfl, _, dx, _, rfl, s3 _ _ o, q3 _ (fun _ _ z => z)⟩
    have e2 := s2 _ _ e1
    have hat2 : ∀ e ∈ l, RRow.At K H2 e := fun e he => RRow.keep (fun b o z _ => s2 _ _ z) (hat1 e he)
    have fin : ∀ H', Same H2 H' → Q (.bl true) H' := fun H' s' => q H' ((b1.trans (but_same s2)).trans (but_same s')) (tb1.ext (s2.trans s'))
    refine ⟨_, rfl, _, _, rfl, .inr (SqT.of e2), _, _, rfl, rfl, _, rfl, ?_⟩
    rw [decide_eq_false (show ¬ ((12 : Int) < (l.map fun e => V.ref e.a).length) by rw [List.length_map]; omega)]
    refine iteF ⟨_, rfl, a, rfl, ⟨_, SqT.of e2⟩, fun D2 hD2 => lc_rel walk_tup (RF (ixMap l fun e => V.str e.w)) hD2 (fun H' s => SqT.of (s _ _ e2)) rfl (by
        rintro i x m H3 H4 hi hl2 s e3 r ⟨rfl, hx2⟩
        obtain ⟨n, hn, rfl⟩ := getMap hx2
        obtain ⟨dx, RR, o⟩ := RRow.at (hat2 n (List.mem_of_getElem? hn))
        have o3 := s _ _ o
        rw [List.length_map] at hi
        refine ⟨rfl, _, rfl, _, _, _, _, _, rfl, o3, T.cls_Rule, T.na_Rule_word, fl_Rule_word .., lc_takeF hD2 (Nat.lt_of_lt_of_le (show i < 1001 by omega) (by decide)) hl2 s e3 r ?_⟩
        rw [ixMap_at hn]) ?_⟩
    intro m1 H5 hl5 s5 e5 r5
    have r5 := rf_map r5 (by simp)
    have e6 := s5 _ _ e2
    have hat6 : ∀ e ∈ l, RRow.At K H5 e := fun e he => RRow.keep (fun b o z _ => s5 _ _ z) (hat2 e he)
    refine ⟨_, rfl, D2, l.map (·.w), rfl, .inl ?_, nz, (by rw [List.length_map]; omega), fun H6 s6 => ⟨_, rfl, iteT ?_⟩⟩
    · rw [e5, r5, List.map_map]
      rfl
    have e9 := s6 _ _ e6
    have hat9 : ∀ e ∈ l, RRow.At K H6 e := fun e he => RRow.keep (fun b o z _ => s6 _ _ z) (hat6 e he)
    refine ⟨_, rfl, a, rfl, ⟨_, SqT.of e9⟩, fun D9 hD9 => lc_rel walk_tup (RF (ixMap l fun e => V.bl (decide (e.r ≤ top)))) hD9 (fun H' s => SqT.of (s _ _ e9)) rfl (by
        rintro i x m H3 H4 hi hl2 s e3 r ⟨rfl, hx2⟩
        obtain ⟨n, hn, rfl⟩ := getMap hx2
        obtain ⟨dx, RR, o⟩ := RRow.at (hat9 n (List.mem_of_getElem? hn))
        have o3 := s _ _ o
        rw [List.length_map] at hi
        refine ⟨rfl, _, rfl, _, _, _, _, _, rfl, o3, T.cls_Rule, T.na_Rule_rank, fl_Rule_rank .., _, rfl, _, _, rfl, rfl, lc_takeF hD9 (Nat.lt_of_lt_of_le (show i < 1001 by omega) (by decide)) hl2 s e3 r ?_⟩
        rw [ixMap_at hn]) ?_⟩
    intro m3 H10 hl10 s10 e10 r10
    have r10 := rf_map r10 (by simp)
    refine ⟨D9, l.map fun e => decide (e.r ≤ (top : Int)), rfl, SqL.of (by rw [e10, r10, List.map_map]; rfl), ?_⟩
    rw [show (l.map fun e => decide (e.r ≤ (top : Int))).all id = true from by
      rw [List.all_map, List.all_eq_true]
      exact fun x hx => decide_eq_true (rk x hx)]
    exact fin _ ((s5.trans s6).trans s10)
abbrev N_are_threads : List Str := ["threads", "thread"]
theorem sc_are_threads : FnScope N_are_threads ["threads"] (defScope s_are_threads) := ⟨rfl, rfl, rfl, by decide +kernel, rfl, by decide +kernel, by decide +kernel⟩
theorem ok_are_threads (T : Txt K mg) (TBs : TabsOk K mg base) : CallOk P w K mg base 9 "are_threads" ["threads"] [] (sp_are_threads K) := by
  refine call_okT T 23 T.g_are_threads sc_are_threads (fun vs H Q E h => ?_) (fun f A outer s H vs Q E hr h => ?_) (fun _ _ _ _ _ _ us hl => match us, hl with | [_], _ => rfl)
  · obtain ⟨x0, rfl, _⟩ := h
    rfl
  · have nd := sc_are_threads.nd
    have hu := hu_of hr
    have hu64 := hu64_of hr
    have TBx := TBs ("are_threads", none) (by simp [tf])
    have c_are_all := ok_are_all (P := P) (w := w) (base := base) T
    have c_are_unlike := ok_are_unlike (P := P) (w := w) (base := base) T
    obtain ⟨x0, rfl, h⟩ := h
    refine ⟨_, (pss_cons (ps_if (PW.pt (pw_or (pt_not (pt_val (pe_callO c_are_all (hr.mono (by first | decide | omega)) (pa_cons (pv 0) (pa_cons (pe_lamV (c := codA K "are_threads") (P := tabA K "are_threads") TBx rfl rfl (by decide +kernel)) pa_nil))))) (pw_or1 (pt_cmpR op_gt (pe_callB (lenSK (K := K)) (by rfl) T.b_len boot_len (pa_cons (pv 0) pa_nil)) (pe_gint T.i_MOST_THREADS) (nomark _))))) (pss_one (ps_ret pe_bl)) pss_nil) (pss_one (ps_ret (pe_callO c_are_unlike (hr.mono (by first | decide | omega)) (pa_cons (pe_lc (own := [("thread", 1)]) (g := (gName 1)) (tt := tYes) rfl nd (pi_tup (pv 0)) (blkOk_by (own := [("thread", 1)]) (N := N_are_threads) (sc := defScope s_are_threads) (by decide +kernel)) (fun _ _ _ _ _ => (pg_name (i := 1) nd rfl (Or.inl rfl))) (fun _ _ _ _ _ => pts_nil) (fun _ _ _ _ _ => (fldK (K := K) (pv 1) rfl))) pa_nil))))), ?_⟩
    obtain ⟨a, l, rfl, e, hat, nz, l2, tb, q⟩ := h
    obtain ⟨ps, hps⟩ := tab_of tb
    refine ⟨_, rfl, tb, fun fl c' H1 b1 tb1 lam => ?_⟩
    have F := callee_lam1 (P := P) (w := w) (K := K) (mg := mg) (base := base) (k := 5) (N := ["one"]) (ps := ["one"]) (sp := sp_isC K "Thread") lam ⟨rfl, rfl, rfl, by decide +kernel, rfl, by decide +kernel, by decide +kernel⟩ (fun vs H Q E h => by
        obtain ⟨_, rfl, _⟩ := h
        rfl) (fun pm cv ctv us hl => match us, hl with | [_], _ => rfl) (fun A' outer' s' H' vs' Q' hr' h' => by
        obtain ⟨_, rfl, x, dx, fs, rfl, o, q'⟩ := h'
        exact ⟨_, pe_callB (C8.call_isC (T.ins T.cls_Thread (by decide +kernel))) (by rfl) T.b_isinstance boot_isinstance (pa_cons (pv 0) (pa_cons (pe_gref T.g_Thread) pa_nil)), _, rfl, x, dx, fs, rfl, o, q'⟩)
    have keep1 : ∀ b o, H b = some o → (∀ ps, o ≠ .tbl ps) → H1 b = some o := fun b o z n => b1 b o z fun y => n ps (Option.some.inj (z.symm.trans (y ▸ hps)))
    have e1 := keep1 _ _ e (by intro _ z; cases z)
    have hat1 : ∀ e ∈ l, TRow.At K H1 e := fun e he => TRow.keep (fun b o z y => keep1 b o z (by obtain ⟨_, _, _, rfl⟩ := y; intro _ z; cases z)) (hat e he)
    refine ⟨_, _, rfl, a, _, fl, _, sp_isC K "Thread", rfl, e1, rfl, F, lam, ?_, (by rw [List.length_map]; omega), fun H2 s2 => ⟨_, rfl, iteF ?_⟩⟩
    · intro v hv H3 Q3 s3 q3
      obtain ⟨r, hr, rfl⟩ := List.mem_map.mp hv
      obtain ⟨dx, fs, o⟩ := TRow.ins (hat1 r hr)
      exact ⟨_, rfl, _, dx, _, rfl, s3 _ _ o, q3 _ (fun _ _ z => z)⟩
    have e2 := s2 _ _ e1
    have hat2 : ∀ e ∈ l, TRow.At K H2 e := fun e he => TRow.keep (fun b o z _ => s2 _ _ z) (hat1 e he)
    have fin : ∀ H', Same H2 H' → Q (.bl true) H' := fun H' s' => q H' ((b1.trans (but_same s2)).trans (but_same s')) (tb1.ext (s2.trans s'))
    refine ⟨_, rfl, _, _, rfl, .inr (SqT.of e2), _, _, rfl, rfl, _, rfl, ?_⟩
    rw [decide_eq_false (show ¬ ((12 : Int) < (l.map fun e => V.ref e.a).length) by rw [List.length_map]; omega)]
    refine iteF ⟨_, rfl, a, rfl, ⟨_, SqT.of e2⟩, fun D2 hD2 => lc_rel walk_tup (RF (ixMap l fun e => V.str e.n)) hD2 (fun H' s => SqT.of (s _ _ e2)) rfl (by
        rintro i x m H3 H4 hi hl2 s e3 r ⟨rfl, hx2⟩
        obtain ⟨n, hn, rfl⟩ := getMap hx2
        obtain ⟨dx, RR, o⟩ := TRow.at (hat2 n (List.mem_of_getElem? hn))
        have o3 := s _ _ o
        rw [List.length_map] at hi
        refine ⟨rfl, _, rfl, _, _, _, _, _, rfl, o3, T.cls_Thread, T.na_Thread_name, fl_Thread_name .., lc_takeF hD2 (Nat.lt_of_lt_of_le (show i < 1001 by omega) (by decide)) hl2 s e3 r ?_⟩
        rw [ixMap_at hn]) ?_⟩
    intro m1 H5 hl5 s5 e5 r5
    have r5 := rf_map r5 (by simp)
    refine ⟨_, rfl, D2, l.map (·.n), rfl, .inl ?_, nz, (by rw [List.length_map]; omega), fun H6 s6 => fin _ (s5.trans s6)⟩
    rw [e5, r5, List.map_map]
    rfl
end
end Lv
set_option maxHeartbeats 4000000
namespace Lv
open PySem PySem.Spec PyProof.Rows L2
section
variable {P : Program} {w : World} {K : PySem.W.Frag} {mg : Str → Option Value} {base : Heap}
structure ForumA where
  x : Addr
  la : Addr
  ns : List Int
  ps : List (Int × Int)
  fo : Addr
  fl : List FRow
  ru : Addr
  rl : List Addr
  th : Addr
  tl : List Addr
def ForumA.At (K : PySem.W.Frag) (H : Hp) (f : ForumA) : Prop := (∃ dx, H f.x = some (.ins (He.ga K "Forum") dx (fl_Forum (.ref f.la) (.ref f.fo) (.ref f.ru) (.ref f.th)))) ∧ LadderAt K H f.la f.ns f.ps ∧ H f.fo = some (.tup (f.fl.map fun e => .ref e.a)) ∧ (∀ e ∈ f.fl, FRow.At K H e) ∧ H f.ru = some (.tup (f.rl.map .ref)) ∧ H f.th = some (.tup (f.tl.map .ref))
theorem LadderAt.keep {H H' : Hp} {x : Addr} {ns : List Int} {ps : List (Int × Int)} (k : ∀ b o, H b = some o → (∃ C dx fs, o = .ins C dx fs) → H' b = some o) (t : Tk H H') (h : LadderAt K H x ns ps) : LadderAt K H' x ns ps := by
  obtain ⟨dx, la, na, o, t1, t2⟩ := h
  exact ⟨dx, la, na, k _ _ o ⟨_, _, _, rfl⟩, t1.keep t, t2.keep t⟩
theorem ForumA.At.keep {H H' : Hp} {f : ForumA} (k : ∀ b o, H b = some o → (∃ C dx fs, o = .ins C dx fs) → H' b = some o) (t : Tk H H') (h : f.At K H) : f.At K H' := by
  obtain ⟨⟨dx, o⟩, h1, h2, h3, h4, h5⟩ := h
  exact ⟨⟨dx, k _ _ o ⟨_, _, _, rfl⟩⟩, h1.keep k t, t _ _ h2, fun e he => FRow.keep k (h3 e he), t _ _ h4, t _ _ h5⟩
theorem ForumA.At.same {H H' : Hp} {f : ForumA} (s : Same H H') (h : f.At K H) : f.At K H' := h.keep (fun b o z _ => s b o z) (tk_same s)
theorem tab_keep {x y : Str} {H H' : Hp} (hne : tabA K x ≠ tabA K y) (t : TabH K x H) (ty : TabH K y H) (b : But1 (tabA K y) H H') : TabH K x H' := by
  obtain ⟨ps, h1, h2, h3⟩ := t
  obtain ⟨qs, hq⟩ := tab_of ty
  refine ⟨ps, b _ _ h1 hne, h2, fun pos cv hc => ?_⟩
  obtain ⟨c, e, hco⟩ := h3 pos cv hc
  exact ⟨c, e, b _ _ hco fun z => by
    rw [z, hq] at hco
    cases hco⟩
theorem Txt.tabNe (T : Txt K mg) : tabA K "are_rules" ≠ tabA K "are_founders" ∧ tabA K "are_threads" ≠ tabA K "are_founders" ∧ tabA K "are_threads" ≠ tabA K "are_rules" := by
  have h := T.tabs
  have h : List.Nodup [tabA K "are_founders", tabA K "are_rules", tabA K "are_threads"] := h
  rw [List.nodup_cons, List.nodup_cons] at h
  obtain ⟨h1, h2, _⟩ := h
  refine ⟨fun z => h1 (by simp [z]), fun z => h1 (by simp [z]), fun z => h2 (by simp [z])⟩
def SForum (K : PySem.W.Frag) (x : Addr) : Addr → Prop := fun b => b = x ∨ b = tabA K "are_founders" ∨ b = tabA K "are_rules" ∨ b = tabA K "are_threads"
def sp_Forum_init (K : PySem.W.Frag) : Sp := sp5 fun v x0 x1 x2 x3 H Q => ∃ (x dx la fo ru th : Addr) (ns : List Int) (ps : List (Int × Int)) (fl : List FRow) (rl : List RRow) (tl : List TRow), v = .ref x ∧ H x = some (.ins (He.ga K "Forum") dx []) ∧ x0 = .ref la ∧ LadderAt K H la ns ps ∧ 1 ≤ ns.length ∧
  x1 = .ref fo ∧ H fo = some (.tup (fl.map fun e => .ref e.a)) ∧ (∀ e ∈ fl, FRow.At K H e) ∧ (fl.map (·.n)).Nodup ∧ 1 ≤ fl.length ∧ fl.length ≤ 1000 ∧ (fl.map (·.g)).sum ≤ 24 ∧ (∀ e ∈ fl, e.r ≤ (ns.length - 1 : Nat)) ∧
  x2 = .ref ru ∧ H ru = some (.tup (rl.map fun e => .ref e.a)) ∧ (∀ e ∈ rl, RRow.At K H e) ∧ (rl.map (·.w)).Nodup ∧ rl.length ≤ 12 ∧ (∀ e ∈ rl, e.r ≤ (ns.length - 1 : Nat)) ∧
  x3 = .ref th ∧ H th = some (.tup (tl.map fun e => .ref e.a)) ∧ (∀ e ∈ tl, TRow.At K H e) ∧ (tl.map (·.n)).Nodup ∧ tl.length ≤ 12 ∧
  TabH K "are_founders" H ∧ TabH K "are_rules" H ∧ TabH K "are_threads" H ∧
  ∀ H' (f : ForumA), But (SForum K x) H H' → f.x = x → f.fl = fl → f.At K H' → Q .non H'
abbrev N_Forum_init : List Str := ["self", "ladder", "founders", "rules", "threads"]
theorem sc_Forum_init : FnScope N_Forum_init ["self", "ladder", "founders", "rules", "threads"] (defScope s_Forum_init) := ⟨rfl, rfl, rfl, by decide +kernel, rfl, by decide +kernel, by decide +kernel⟩
theorem ok_Forum_init (T : Txt K mg) (TBs : TabsOk K mg base) : MakeOk P w K mg base 10 "Forum" (He.ga K "Forum") ["self", "ladder", "founders", "rules", "threads"] (sp_Forum_init K) := by
  refine make_ok (q := "Forum.__init__") T 24 T.g_Forum T.mk_Forum sc_Forum_init (fun vs H Q E h => ?_) (fun f cdv A outer s H vs Q E hr h => ?_) (fun _ _ _ _ _ _ us hl => match us, hl with | [_, _, _, _, _], _ => rfl)
  · obtain ⟨x0, x1, x2, x3, x4, rfl, _⟩ := h
    rfl
  · have nd := sc_Forum_init.nd
    have hu := hu_of hr
    have hu64 := hu64_of hr
    have c_are_founders := ok_are_founders (P := P) (w := w) (base := base) T TBs
    have c_are_rules := ok_are_rules (P := P) (w := w) (base := base) T TBs
    have c_are_threads := ok_are_threads (P := P) (w := w) (base := base) T TBs
    obtain ⟨x0, x1, x2, x3, x4, rfl, h⟩ := h
    refine ⟨_, (pss_cons (ps_if (pt_not (pt_val (pe_callB (C8.call_isC (T.ins T.cls_Ladder (by decide +kernel))) (by rfl) T.b_isinstance boot_isinstance (pa_cons (pv 1) (pa_cons (pe_gref T.g_Ladder) pa_nil))))) (pss_one ps_never) pss_nil) (pss_cons (ps_if (pt_not (pt_val (pe_callO c_are_founders (hr.mono (by first | decide | omega)) (pa_cons (pv 2) (pa_cons (fldK (K := K) (pv 1) rfl) pa_nil))))) (pss_one ps_never) pss_nil) (pss_cons (ps_if (pt_not (pt_val (pe_callO c_are_rules (hr.mono (by first | decide | omega)) (pa_cons (pv 3) (pa_cons (fldK (K := K) (pv 1) rfl) pa_nil))))) (pss_one ps_never) pss_nil) (pss_cons (ps_if (pt_not (pt_val (pe_callO c_are_threads (hr.mono (by first | decide | omega)) (pa_cons (pv 4) pa_nil)))) (pss_one ps_never) pss_nil) (pss_cons (ps_fld (pv 0) (pv 1) rfl) (pss_cons (ps_fld (pv 0) (pe_callTy (tupleOfK (K := K)) (by rfl) T.b_tuple boot_tuple (pa_cons (pv 2) pa_nil)) rfl) (pss_cons (ps_fld (pv 0) (pe_callTy (tupleOfK (K := K)) (by rfl) T.b_tuple boot_tuple (pa_cons (pv 3) pa_nil)) rfl) (pss_one (ps_fld (pv 0) (pe_callTy (tupleOfK (K := K)) (by rfl) T.b_tuple boot_tuple (pa_cons (pv 4) pa_nil)) rfl))))))))), ?_⟩
    obtain ⟨x, dx, la, fo, ru, th, ns, ps, fl, rl, tl, rfl, ox, rfl, hla, l1, rfl, ef, hf, f1, f2, f3, f4, f5, rfl, er, hrl, r1, r2, r3, rfl, et, ht, t1, t2, tb1, tb2, tb3, q⟩ := h
    obtain ⟨n1, n2, n3⟩ := T.tabNe
    obtain ⟨dla, lv, nv, ol, _, _⟩ := id hla
    have etop : ((ns.length : Int) - 1) = ((ns.length - 1 : Nat) : Int) := by omega
    refine ⟨_, rfl, _, _, _, rfl, ol, _, rfl, iteF ?_⟩
    have kIns : ∀ {H1 H2 : Hp} {y : Str}, TabH K y H1 → But1 (tabA K y) H1 H2 → ∀ b o, H1 b = some o → (∃ C dx fs, o = .ins C dx fs) → H2 b = some o := fun t b c o z k => b c o z fun e => by
      obtain ⟨ps, hp⟩ := tab_of t
      obtain ⟨_, _, _, rfl⟩ := k
      rw [e, hp] at z
      cases z
    have kTup : ∀ {H1 H2 : Hp} {y : Str}, TabH K y H1 → But1 (tabA K y) H1 H2 → Tk H1 H2 := fun t b a xs z => b a _ z fun e => by
      obtain ⟨ps, hp⟩ := tab_of t
      rw [e, hp] at z
      cases z
    refine ⟨_, rfl, _, rfl, _, _, _, _, _, rfl, ol, T.cls_Ladder, T.na_Ladder_top, fl_Ladder_top .., _, _, rfl, fo, fl, ns.length - 1, rfl, ef, hf, congrArg V.int etop, f1, f2, f3, f4, f5, tb1, fun H1 b1 tb1' => ⟨_, rfl, iteF ?_⟩⟩
    have kI1 := kIns tb1 b1
    have kT1 := kTup tb1 b1
    have ol1 := kI1 _ _ ol ⟨_, _, _, rfl⟩
    have tb2a := tab_keep n1 tb2 tb1 b1
    have tb3a := tab_keep n2 tb3 tb1 b1
    refine ⟨_, rfl, _, rfl, _, _, _, _, _, rfl, ol1, T.cls_Ladder, T.na_Ladder_top, fl_Ladder_top .., _, _, rfl, ru, rl, ns.length - 1, rfl, kT1 _ _ er, fun e he => RRow.keep kI1 (hrl e he), congrArg V.int etop, r1, r2, r3, tb2a, fun H2 b2 tb2' => ⟨_, rfl, iteF ?_⟩⟩
    have kI2 := kIns tb2a b2
    have kT2 := kTup tb2a b2
    have tb3b := tab_keep n3 tb3a tb2a b2
    refine ⟨_, rfl, _, rfl, th, tl, rfl, kT2 _ _ (kT1 _ _ et), fun e he => TRow.keep kI2 (TRow.keep kI1 (ht e he)), t1, t2, tb3b, fun H3 b3 tb3' => ⟨_, rfl, iteF ?_⟩⟩
    have kI3 := kIns tb3b b3
    have kT3 := kTup tb3b b3
    have kI : ∀ b o, H b = some o → (∃ C dx fs, o = .ins C dx fs) → H3 b = some o := fun b o z y => kI3 _ _ (kI2 _ _ (kI1 _ _ z y) y) y
    have kT : Tk H H3 := (kT1.trans kT2).trans kT3
    have ox3 := kI _ _ ox ⟨_, _, _, rfl⟩
    refine ⟨_, rfl, _, rfl, x, _, dx, _, rfl, ox3, T.cls_Forum, T.na_Forum_ladder, (by decide), ?_⟩
    have u1 : Tk H3 (upd H3 x (.ins (He.ga K "Forum") dx (putF "ladder" (.ref la) []))) := tk_mut ox3 (by intro _ z; cases z)
    refine ⟨_, rfl, fo, _, rfl, .inr ⟨SqT.of (u1 _ _ (kT _ _ ef)), _, rfl, x, _, dx, _, rfl, upd_same, T.cls_Forum, T.na_Forum_founders, Nat.lt_of_le_of_lt (putF_len (Nat.le_refl _)) (by decide), ?_⟩⟩
    have u2 : Tk H3 (upd (upd H3 x (.ins (He.ga K "Forum") dx (putF "ladder" (.ref la) []))) x (.ins (He.ga K "Forum") dx (putF "founders" (.ref fo) (putF "ladder" (.ref la) [])))) := u1.trans (tk_mut upd_same (by intro _ z; cases z))
    refine ⟨_, rfl, ru, _, rfl, .inr ⟨SqT.of (u2 _ _ (kT _ _ er)), _, rfl, x, _, dx, _, rfl, upd_same, T.cls_Forum, T.na_Forum_rules, Nat.lt_of_le_of_lt (putF_len (putF_len (Nat.le_refl _))) (by decide), ?_⟩⟩
    have u3 : Tk H3 (upd (upd (upd H3 x (.ins (He.ga K "Forum") dx (putF "ladder" (.ref la) []))) x (.ins (He.ga K "Forum") dx (putF "founders" (.ref fo) (putF "ladder" (.ref la) [])))) x (.ins (He.ga K "Forum") dx (putF "rules" (.ref ru) (putF "founders" (.ref fo) (putF "ladder" (.ref la) []))))) := u2.trans (tk_mut upd_same (by intro _ z; cases z))
    refine ⟨_, rfl, th, _, rfl, .inr ⟨SqT.of (u3 _ _ (kT _ _ et)), _, rfl, x, _, dx, _, rfl, upd_same, T.cls_Forum, T.na_Forum_threads, Nat.lt_of_le_of_lt (putF_len (putF_len (putF_len (Nat.le_refl _)))) (by decide), ?_⟩⟩
    have u4 := u3.trans (tk_mut (u := .ins (He.ga K "Forum") dx (putF "threads" (.ref th) (putF "rules" (.ref ru) (putF "founders" (.ref fo) (putF "ladder" (.ref la) []))))) upd_same (by intro _ z; cases z))
    have bx : ∀ {H1 H2 : Hp} {o : HO}, But1 x H1 H2 → But1 x H1 (upd H2 x o) := fun z => but1_upd z
    have bAll := bx (o := .ins (He.ga K "Forum") dx (putF "threads" (.ref th) (putF "rules" (.ref ru) (putF "founders" (.ref fo) (putF "ladder" (.ref la) []))))) (bx (o := .ins (He.ga K "Forum") dx (putF "rules" (.ref ru) (putF "founders" (.ref fo) (putF "ladder" (.ref la) [])))) (bx (o := .ins (He.ga K "Forum") dx (putF "founders" (.ref fo) (putF "ladder" (.ref la) []))) (bx (H1 := H3) (o := .ins (He.ga K "Forum") dx (putF "ladder" (.ref la) [])) but_refl)))
    have bS : But (SForum K x) H H3 := ((b1.mono fun b z => .inr (.inl z)).trans (b2.mono fun b z => .inr (.inr (.inl z)))).trans (b3.mono fun b z => .inr (.inr (.inr z)))
    have kI4 : ∀ b o, b ≠ x → H b = some o → (∃ C dx fs, o = .ins C dx fs) → _ := fun b o n z y => bAll b o (kI b o z y) n
    have nla : la ≠ x := fun z => by
      rw [z, ox] at ol
      have z2 := congrArg (List.lookup ("lends" : Str)) (HO.ins.inj (Option.some.inj ol)).2.2
      rw [fl_Ladder_lends] at z2
      cases z2
    refine q _ ⟨x, la, ns, ps, fo, fl, ru, rl.map (·.a), th, tl.map (·.a)⟩ (bS.trans (bAll.mono fun b z => .inl z)) rfl rfl ⟨⟨dx, upd_same⟩, ?_, u4 _ _ (kT _ _ ef), fun e he => ?_, ?_, ?_⟩
    · obtain ⟨dx', la', na', o', t1', t2'⟩ := hla
      exact ⟨dx', la', na', kI4 _ _ nla o' ⟨_, _, _, rfl⟩, (t1'.keep kT).keep u4, (t2'.keep kT).keep u4⟩
    · obtain ⟨dx', o'⟩ := hf e he
      exact ⟨dx', kI4 _ _ (fun z => by
        rw [z, ox] at o'
        have z2 := congrArg (List.lookup ("name" : Str)) (HO.ins.inj (Option.some.inj o')).2.2
        rw [fl_Founder_name] at z2
        cases z2) o' ⟨_, _, _, rfl⟩⟩
    · rw [List.map_map]
      exact u4 _ _ (kT _ _ er)
    · rw [List.map_map]
      exact u4 _ _ (kT _ _ et)
def relF (K : PySem.W.Frag) : Addr → Addr → Hp → Prop := fun a b H => a = b ∧ ∃ f : ForumA, f.x = a ∧ f.At K H
abbrev N_Forum_eq : List Str := ["self", "other"]
theorem sc_Forum_eq : FnScope N_Forum_eq ["self", "other"] (defScope s_Forum_eq) := ⟨rfl, rfl, rfl, by decide +kernel, rfl, by decide +kernel, by decide +kernel⟩
theorem ok_Forum_eq (T : Txt K mg) : MethOk P w K mg base 3 (He.ga K "Forum") "__eq__" ["self", "other"] (spEq (relF K)) := by
  refine meth_ok (q := "Forum.__eq__") T 25 T.cls_Forum T.me_Forum_eq sc_Forum_eq (fun vs H Q E h => ?_) (fun f cdv A outer s H vs Q E hr h => ?_) (fun _ _ _ _ _ _ us hl => match us, hl with | [_, _], _ => rfl)
  · obtain ⟨x0, x1, rfl, _⟩ := h
    rfl
  · have nd := sc_Forum_eq.nd
    have hu := hu_of hr
    have hu64 := hu64_of hr
    have c_Ladder_eq := ok_Ladder_eq (P := P) (w := w) (base := base) T
    obtain ⟨x0, x1, rfl, h⟩ := h
    refine ⟨_, (pss_cons (ps_if (PW.pt (pw_or (pt_not (pt_val (pe_callB (C8.call_isC (T.ins T.cls_Forum (by decide +kernel))) (by rfl) T.b_isinstance boot_isinstance (pa_cons (pv 1) (pa_cons (pe_gref T.g_Forum) pa_nil))))) (pw_or1 (pt_not (pt_cmpR (op_eqO c_Ladder_eq (hr.mono (by first | decide | omega))) (fldK (K := K) (pv 0) rfl) (fldK (K := K) (pv 1) rfl) (nomark _)))))) (pss_one (ps_ret pe_bl)) pss_nil) (pss_one (ps_ret (pe_cmpR (op_eqG (n := 1) (rcG_tup (n := 0) mon_dsame eqG_dsame) (hr.mono (by first | decide | omega))) (pe_tup (pa_cons (fldK (K := K) (pv 0) rfl) (pa_cons (fldK (K := K) (pv 0) rfl) (pa_cons (fldK (K := K) (pv 0) rfl) pa_nil)))) (pe_tup (pa_cons (fldK (K := K) (pv 1) rfl) (pa_cons (fldK (K := K) (pv 1) rfl) (pa_cons (fldK (K := K) (pv 1) rfl) pa_nil)))) (nomark _))))), ?_⟩
    obtain ⟨⟨rfl, f, rfl, hf⟩, q⟩ := h
    obtain ⟨⟨dx, o⟩, hl, e1, _, e2, e3⟩ := id hf
    refine ⟨_, rfl, _, _, _, rfl, o, _, rfl, iteF ?_⟩
    obtain ⟨dl, lv, nv, ol, _, _⟩ := id hl
    refine ⟨_, rfl, _, _, _, _, _, rfl, o, T.cls_Forum, T.na_Forum_ladder, fl_Forum_ladder .., _, rfl, _, _, _, _, _, rfl, o, T.cls_Forum, T.na_Forum_ladder, fl_Forum_ladder .., ⟨f.la, f.la, _, _, _, _, rfl, rfl, ol, ol, rfl, _, _, hl⟩, fun H1 x1 => ⟨_, rfl, iteF ?_⟩⟩
    have sz : (3 : Nat) ≤ sizeLine := by decide
    have o1 := x1 _ _ o
    refine ⟨_, rfl, _, _, _, _, _, rfl, o1, T.cls_Forum, T.na_Forum_founders, fl_Forum_founders .., _, rfl, _, _, _, _, _, rfl, o1, T.cls_Forum, T.na_Forum_rules, fl_Forum_rules .., _, rfl, _, _, _, _, _, rfl, o1, T.cls_Forum, T.na_Forum_threads, fl_Forum_threads .., sz, fun t ht => ?_⟩
    have s1 := same_new (o := .tup [.ref f.fo, .ref f.ru, .ref f.th]) ht
    have o2 := s1 _ _ o1
    refine ⟨_, rfl, _, _, _, _, _, rfl, o2, T.cls_Forum, T.na_Forum_founders, fl_Forum_founders .., _, rfl, _, _, _, _, _, rfl, o2, T.cls_Forum, T.na_Forum_rules, fl_Forum_rules .., _, rfl, _, _, _, _, _, rfl, o2, T.cls_Forum, T.na_Forum_threads, fl_Forum_threads .., sz, fun t2 ht2 => ?_⟩
    have s2 := same_new (o := .tup [.ref f.fo, .ref f.ru, .ref f.th]) ht2
    refine ⟨⟨t, t2, _, _, rfl, rfl, SqT.of (s2 _ _ upd_same), SqT.of upd_same, Prs.cons ⟨rfl, _, rfl⟩ (Prs.cons ⟨rfl, _, rfl⟩ (Prs.cons ⟨rfl, _, rfl⟩ Prs.nil))⟩, fun H' e => q _ ?_⟩
    exact x1.trans ((s1.trans s2).trans e)
end
end Lv
set_option maxHeartbeats 4000000
namespace Lv
open PySem PySem.Spec PyProof.Rows L2
mutual
def Dt.key : Dt → NestedKey
  | .non => .none
  | .bl b => .num (if b = true then 1 else 0)
  | .int i => .num i
  | .str x => .text x
  | .tup l => .tup (Dt.keys l)
def Dt.keys : List Dt → List NestedKey
  | [] => []
  | d :: r => Dt.key d :: Dt.keys r
end
structure KeyF {α : Type} (f : α → Dt) : Prop where
  inj : ∀ x y, (f x).key = (f y).key → x = y
  depth : ∀ x, (f x).key.depth ≤ 8
def NdRaw (P : Program) (w : World) (a : Addr) (xs : List (NestedKey × Addr × Value)) (h : Heap) : Prop := (a == sysModules) = false ∧ xs.length ≤ sizeLine ∧ (xs.map (·.1)).Nodup ∧
  ∃ o es ep, h.get? a = some o ∧ o.ExactDict ∧ o.data = .dict es ep ∧ es.toList = xs.map (entryOfKey (nestedKind P w))
def NE {α : Type} (f : α → Dt) (H : Hp) (p : α × V) (q : NestedKey × Addr × Value) : Prop := q.1 = (f p.1).key ∧ Tv H (f p.1) (.ref q.2.1) ∧ RelV p.2 q.2.2
def NdAt (P : Program) (w : World) (H : Hp) (a : Addr) {α : Type} (f : α → Dt) (l : List (α × V)) : Prop := ∃ xs, H a = some (.ext (NdRaw P w a xs)) ∧ Paired (NE f H) l xs
def NdRd (P : Program) (w : World) (H : Hp) (a : Addr) {α : Type} (f : α → Dt) (l : List (α × V)) : Prop := ∃ xs, Rd H a (.ext (NdRaw P w a xs)) ∧ Paired (NE f H) l xs
section
variable {α : Type} {f : α → Dt} {H H' : Hp} {l : List (α × V)} {xs : List (NestedKey × Addr × Value)} {P : Program} {w : World} {a : Addr}
theorem NE.keeps (k : Tk H H') (r : Paired (NE f H) l xs) : Paired (NE f H') l xs := Paired.mapP r fun _ _ z => ⟨z.1, z.2.1.keep k, z.2.2⟩
theorem NdAt.keep (k : Tk H H') (h : NdAt P w H a f l) (e : H' a = H a) : NdAt P w H' a f l := by
  obtain ⟨xs, h1, h2⟩ := h
  exact ⟨xs, e.trans h1, NE.keeps k h2⟩
theorem NdAt.same (s : Same H H') (h : NdAt P w H a f l) : NdAt P w H' a f l := by
  obtain ⟨xs, h1, h2⟩ := h
  exact ⟨xs, s _ _ h1, NE.keeps (tk_same s) h2⟩
theorem NdAt.but {S : Addr → Prop} (b : But S H H') (n : ¬ S a) (k : Tk H H') (h : NdAt P w H a f l) : NdAt P w H' a f l := by
  obtain ⟨xs, h1, h2⟩ := h
  exact ⟨xs, b _ _ h1 n, NE.keeps k h2⟩
theorem NdAt.rd (h : NdAt P w H a f l) : NdRd P w H a f l := let ⟨xs, h1, h2⟩ := h; ⟨xs, .inl h1, h2⟩
theorem NdAt.notTup (h : NdAt P w H a f l) : ∀ xs, H a ≠ some (.tup xs) := fun xs e => by
  obtain ⟨_, h1, _⟩ := h
  rw [h1] at e
  cases e
variable [DecidableEq α]
theorem ne_val (F : KeyF f) (r : Paired (NE f H) l xs) (x : α) : RelO (valV l x) ((atKey xs (f x).key).map (·.2)) := by
  induction r with
  | nil => exact True.intro
  | @cons p q ps qs h t ih =>
    obtain ⟨h1, _, h2⟩ := h
    by_cases e : p.1 = x
    · have e' : q.1 = (f x).key := by rw [h1, e]
      have b : atKey (q :: qs) (f x).key = some q.2 := by simp [atKey, List.find?_cons, e']
      rw [valV_pos e, b]
      exact h2
    · have e' : ¬ q.1 = (f x).key := fun z => e (F.inj _ _ (h1.symm.trans z))
      have b : atKey (q :: qs) (f x).key = atKey qs (f x).key := by simp [atKey, List.find?_cons, e']
      rw [valV_neg e, b]
      exact ih
theorem ne_repl (F : KeyF f) (r : Paired (NE f H) l xs) (x : α) {y : V} {u : Value} (ry : RelV y u) : Paired (NE f H) (l.map fun kv => if kv.1 = x then (kv.1, y) else kv) (xs.map (putAt (f x).key u)) := by
  induction r with
  | nil => exact .nil
  | @cons p q ps qs h t ih =>
    rw [List.map_cons, List.map_cons]
    refine .cons ?_ ih
    obtain ⟨h1, h2, h3⟩ := h
    unfold putAt
    by_cases e : p.1 = x
    · rw [if_pos e, if_pos (by rw [h1, e])]
      exact ⟨h1, h2, ry⟩
    · rw [if_neg e, if_neg fun z => e (F.inj _ _ (h1.symm.trans z))]
      exact ⟨h1, h2, h3⟩
theorem ne_put (F : KeyF f) (r : Paired (NE f H) l xs) (x : α) {b : Addr} {y : V} {u : Value} (hb : Tv H (f x) (.ref b)) (ry : RelV y u) : Paired (NE f H) (putK l x y) (storedH xs (f x).key b u) := by
  have e : (l.any fun kv => decide (kv.1 = x)) = (atKey xs (f x).key).isSome := by
    rw [valV_any, (ne_val F r x).isSome_eq, Option.isSome_map]
  unfold putK storedH
  rw [e]
  by_cases q : (atKey xs (f x).key).isSome = true
  · rw [if_pos q, if_pos q]
    exact ne_repl F r x ry
  · rw [if_neg q, if_neg q]
    exact Paired.snoc r ⟨rfl, hb, ry⟩
end
section
variable {X : Cx} {pins : List (Addr × Obj)} {σ : L2.St} {H : Hp} {s : Shared}
mutual
theorem nested_is (I : Inv X pins σ H s) : ∀ (d : Dt) (v : V) (u : Value), Tv H d v → RelV v u → NestedIs s.heap d.key u
  | .non, _, _, h, r => by
    obtain rfl := h
    cases r
    exact .none
  | .bl b, _, _, h, r => by
    obtain rfl := h
    cases r
    exact .bool rfl
  | .int i, _, _, h, r => by
    obtain rfl := h
    obtain ⟨t, rfl⟩ := r
    exact .int i t
  | .str x, _, _, h, r => by
    obtain rfl := h
    obtain ⟨t, rfl⟩ := r
    exact .text x t
  | .tup l, _, _, h, r => by
    obtain ⟨a, xs, rfl, e, t⟩ := h
    cases r
    obtain ⟨its, rv, ⟨o, ho, hc, n, hd⟩, _⟩ := I.tuple (SqT.of e)
    exact .tup ho hc hd (by simpa using nested_all I l xs its t rv)
theorem nested_all (I : Inv X pins σ H s) : ∀ (ds : List Dt) (vs : List V) (us : List Value), TvAll H ds vs → Vals vs us → NestedAll s.heap (Dt.keys ds) us
  | [], [], _, _, r => by
    cases r
    exact .nil
  | d :: ds, v :: vs, _, h, r => by
    cases r with
    | cons r1 r2 => exact .cons (nested_is I d v _ h.1 r1) (nested_all I ds vs _ h.2 r2)
  | [], _ :: _, _, h, _ => h.elim
  | _ :: _, [], _, h, _ => h.elim
end
theorem ne_is {α : Type} {f : α → Dt} (F : KeyF f) (I : Inv X pins σ H s) {l : List (α × V)} {xs : List (NestedKey × Addr × Value)} (r : Paired (NE f H) l xs) : ∀ x ∈ xs, (nestedKind X.prog X.w).is s.heap x.1 x.2.1 := by
  induction r with
  | nil => intro x hx; cases hx
  | @cons p q ps qs h t ih =>
    intro x hx
    rcases List.mem_cons.mp hx with rfl | hx
    · obtain ⟨h1, h2, _⟩ := h
      rw [h1]
      exact ⟨nested_is I _ _ _ h2 rfl, F.depth _⟩
    · exact ih x hx
theorem nd_dict {α : Type} {f : α → Dt} (F : KeyF f) (I : Inv X pins σ H s) {a : Addr} {l : List (α × V)} {xs : List (NestedKey × Addr × Value)} (e : Rd H a (.ext (NdRaw X.prog X.w a xs))) (r : Paired (NE f H) l xs) : (a == sysModules) = false ∧ xs.length ≤ sizeLine ∧ s.heap.DictOfH (nestedKind X.prog X.w) a xs := by
  obtain ⟨⟨h1, h2, h3, o, es, ep, h4, h5, h6, h7⟩, _⟩ := (show ObjOk X.prog X.w H s.heap a (.ext (NdRaw X.prog X.w a xs)) from rd_of I.hok e)
  exact ⟨h1, h2, o, es, ep, h4, h5, h6, h7, ne_is F I r, h3⟩
theorem nd_new {a : Addr} {xs : List (NestedKey × Addr × Value)} {h' : Heap} {H' : Hp} (h1 : (a == sysModules) = false) (h2 : xs.length ≤ sizeLine) (d : h'.DictOfH (nestedKind X.prog X.w) a xs) : ObjOk X.prog X.w H' h' a (.ext (NdRaw X.prog X.w a xs)) := by
  obtain ⟨o, es, ep, h4, h5, h6, h7, _, h3⟩ := d
  refine ⟨⟨h1, h2, h3, o, es, ep, h4, h5, h6, h7⟩, ⟨o, h4⟩, fun g1 g2 q st => ?_⟩
  obtain ⟨z1, z2, z3, o', es', ep', z4, z5⟩ := q
  exact ⟨z1, z2, z3, o', es', ep', st _ z4, z5⟩
end
def NGet (P : Program) (w : World) (H : Hp) (a : Addr) (y : V) (o : Option V) : Prop := ∃ (α : Type) (_ : DecidableEq α) (f : α → Dt) (l : List (α × V)) (x : α) (b : Addr), KeyF f ∧ NdRd P w H a f l ∧ y = .ref b ∧ Tv H (f x) (.ref b) ∧ o = valV l x
def NPut (P : Program) (w : World) (H : Hp) (a : Addr) (y v : V) (Q : Hp → Prop) : Prop := ∃ (α : Type) (_ : DecidableEq α) (f : α → Dt) (l : List (α × V)) (x : α) (b : Addr), KeyF f ∧ NdAt P w H a f l ∧ y = .ref b ∧ Tv H (f x) (.ref b) ∧ l.length < sizeLine ∧
  ∀ o, (∀ xs, o ≠ .tup xs) → NdAt P w (upd H a o) a f (putK l x v) → Q (upd H a o)
def tNGet (P : Program) (w : World) (td ty : TE) : TE := fun σ H Q => td σ H fun x H1 => ty σ H1 fun y H2 => ∃ a v, x = .ref a ∧ NGet P w H2 a y (some v) ∧ Q v H2
def tNIn (P : Program) (w : World) (neg : Bool) (ty td : TE) : TE := fun σ H Q => ty σ H fun y H1 => td σ H1 fun x H2 => ∃ a o, x = .ref a ∧ NGet P w H2 a y o ∧ Q (.bl (if neg = true then !o.isSome else o.isSome)) H2
def sNPut (P : Program) (w : World) (td ty tv : TE) : TS := fun D σ H => tv σ H fun v H1 => td σ H1 fun x H2 => ty σ H2 fun y H3 => ∃ a, x = .ref a ∧ NPut P w H3 a y v (D.nx σ)
def tNNew (P : Program) (w : World) : TE := fun _ H Q => ∀ p, H p = none → Q (.ref p) (upd H p (.ext (NdRaw P w p [])))
theorem nroom {A : Around} (h : A.units + 64 < cLine) {P : Program} {w : World} : (nestedKind P w).room A.in1 := by
  show A.units + 1 + 8 < cLine
  omega
section
variable {X : Cx} {P : Program} {w : World} {o i e value : Expr} {pos pos' tpos : Pos} {td ty tv : TE}
theorem pe_nget (hu : X.A.units + 64 < cLine) (ho : PE X o td) (hi : PE X i ty) (hs : NoSl i) (hP : X.prog = P := by rfl) (hw : X.w = w := by rfl) : PE X (.Subscript o i pos) (tNGet P w td ty) := by
  subst hP hw
  refine ⟨fun pins s σ H Q I h => ?_⟩
  refine subD_of PySem.F.slot_dict_getitem.lookup hs (thn (ho.run pins s σ H _ I h) fun u s1 ⟨x, H1, I1, rx, q1⟩ => thn (hi.run pins s1 σ H1 _ I1 q1) fun iv s2 ⟨y, H2, I2, ry, a, v, ex, g, q2⟩ => ?_)
  subst ex
  obtain rfl : u = Value.ref a := rx
  obtain ⟨α, dα, f, l, k, b, F, ⟨xs, e, r⟩, rfl, hb, hv⟩ := g
  cases (show iv = Value.ref b from ry)
  obtain ⟨z1, z2, dd⟩ := nd_dict F I2 e r
  obtain ⟨w', hw, rw'⟩ := RelO.some_of (v := v) (o := (atKey xs (f k).key).map (·.2)) (by rw [hv]; exact ne_val F r k)
  obtain ⟨p, hp, hp2⟩ := Option.map_eq_some_iff.mp hw
  refine ⟨dd.typeIs, wpAny_getItem_heap (nroom hu) ⟨nested_is I2 _ _ _ hb rfl, F.depth _⟩ dd hp ?_⟩
  rw [hp2]
  exact ⟨v, H2, I2.tok _, rw', q2⟩
theorem pc_nin (hu : X.A.units + 64 < cLine) (hi : PE X i ty) (ho : PE X o td) (hP : X.prog = P := by rfl) (hw : X.w = w := by rfl) : PC X .In i o (tNIn P w false ty td) := by
  subst hP hw
  refine ⟨fun pins s σ H Q I h => ?_⟩
  refine thn (hi.run pins s σ H _ I h) fun iv s1 ⟨y, H1, I1, ry, q1⟩ => thn (ho.run pins s1 σ H1 _ I1 q1) fun u s2 ⟨x, H2, I2, rx, a, ov, ex, g, q2⟩ => ?_
  subst ex
  obtain rfl : u = Value.ref a := rx
  obtain ⟨α, dα, f, l, k, b, F, ⟨xs, e, r⟩, rfl, hb, hv⟩ := g
  cases (show iv = Value.ref b from ry)
  obtain ⟨z1, z2, dd⟩ := nd_dict F I2 e r
  refine wpAny_in_heap (nroom hu) ⟨nested_is I2 _ _ _ hb rfl, F.depth _⟩ z1 dd ?_
  have q := (ne_val F r k).isSome_eq
  rw [Option.isSome_map, ← hv] at q
  rw [← q]
  exact ⟨.bl ov.isSome, H2, I2.tok _, rfl, q2⟩
theorem pc_nnotin (hu : X.A.units + 64 < cLine) (hi : PE X i ty) (ho : PE X o td) (hP : X.prog = P := by rfl) (hw : X.w = w := by rfl) : PC X .NotIn i o (tNIn P w true ty td) := by
  subst hP hw
  refine ⟨fun pins s σ H Q I h => ?_⟩
  refine thn (hi.run pins s σ H _ I h) fun iv s1 ⟨y, H1, I1, ry, q1⟩ => thn (ho.run pins s1 σ H1 _ I1 q1) fun u s2 ⟨x, H2, I2, rx, a, ov, ex, g, q2⟩ => ?_
  subst ex
  obtain rfl : u = Value.ref a := rx
  obtain ⟨α, dα, f, l, k, b, F, ⟨xs, e, r⟩, rfl, hb, hv⟩ := g
  cases (show iv = Value.ref b from ry)
  obtain ⟨z1, z2, dd⟩ := nd_dict F I2 e r
  show wpAny (model X.prog X.w) X.A (do return Value.bool (!(← contains (.ref a) (.ref b)))) _ _ _
  refine wpAny_bind (wpAny_contains_heap (nroom hu) ⟨nested_is I2 _ _ _ hb rfl, F.depth _⟩ z1 dd (wpAny_pure ?_))
  have q := (ne_val F r k).isSome_eq
  rw [Option.isSome_map, ← hv] at q
  rw [← q]
  exact ⟨.bl (!ov.isSome), H2, I2.tok _, rfl, q2⟩
theorem ps_nput (hu : X.A.units + 64 < cLine) (ho : PE X o td) (hi : PE X i ty) (hv : PE X value tv) (hs : swapsWith value (some (.Subscript o i pos')) pos.line X.env = pure false) (hP : X.prog = P := by rfl) (hw : X.w = w := by rfl) :
    PS X (.Assign [.Subscript o i pos'] value pos) (sNPut P w td ty tv) := by
  subst hP hw
  refine ⟨fun pins s σ H D I h => ?_⟩
  refine wpAny_Assign_Subscript (thn (hv.run pins s σ H _ I h) fun r s1 ⟨v, H1, I1, rv, q1⟩ => thn (ho.run pins s1 σ H1 _ I1 q1) fun u s2 ⟨x, H2, I2, rx, q2⟩ => thn (hi.run pins s2 σ H2 _ I2 q2) fun iv s3 ⟨y, H3, I3, ry, a, ex, g⟩ => ?_) hs
  subst ex
  obtain rfl : u = Value.ref a := rx
  obtain ⟨α, dα, f, l, k, b, F, ⟨xs, e, pr⟩, rfl, hb, hl, q3⟩ := g
  cases (show iv = Value.ref b from ry)
  obtain ⟨z1, z2, dd⟩ := nd_dict F I3 (.inl e) pr
  have hlen : l.length = xs.length := Paired.length pr
  have pr2 := ne_put F pr k hb rv
  have hlen2 : (storedH xs (f k).key b r).length ≤ sizeLine := by
    rw [← Paired.length pr2]
    have := length_putK l k v
    omega
  refine wpAny_setItem_heap (hsz := z2) (nroom hu) ⟨nested_is I3 _ _ _ hb rfl, F.depth _⟩ dd fun h' dd' hs' => ?_
  obtain ⟨ob, es, ep, hob, _⟩ := id dd'
  have tk : Tk H3 (upd H3 a (.ext (NdRaw X.prog X.w a (storedH xs (f k).key b r)))) := tk_mut e (by intro _ z; cases z)
  exact ⟨σ, _, d_write I3 (by rw [e]; exact True.intro) hs' ⟨ob, hob⟩ (nd_new z1 hlen2 dd'), q3 _ (by intro _ z; cases z) ⟨_, upd_same, NE.keeps tk pr2⟩⟩
theorem pe_dnewN (hP : X.prog = P := by rfl) (hw : X.w = w := by rfl) : PE X (.Dict [] [] pos) (tNNew P w) := by
  subst hP hw
  refine ⟨fun pins s σ H Q I h => ?_⟩
  have hm : (s.heap.objs.size == sysModules) = false := beq_eq_false_iff_ne.mpr (Nat.ne_of_gt I.big)
  exact wpAny_Dict_empty ⟨.ref s.heap.objs.size, _, I.laid (a := s.heap.objs.size) (o := .ext (NdRaw X.prog X.w s.heap.objs.size [])) (t' := s.toks) (fun _ _ q => Heap.get?_push_of_some _ q) (Nat.le_refl _) (nd_new hm (Nat.zero_le _) (Heap.DictOfH.new s.heap)), rfl, h _ (I.hok.fresh (Nat.le_refl _))⟩
end
end Lv
set_option maxHeartbeats 4000000
namespace Lv
open PySem PySem.Spec PyProof.Rows L2
theorem paired_getR {α β : Type} {R : α → β → Prop} : ∀ {l : List α} {m : List β}, Paired R l m → ∀ {i : Nat} {y : β}, m[i]? = some y → ∃ x, l[i]? = some x ∧ R x y
  | _, _, .nil, _, _, e => by simp at e
  | _, _, .cons h t, 0, _, e => by
    simp at e
    subst e
    exact ⟨_, rfl, h⟩
  | _, _, .cons h t, i + 1, _, e => by
    obtain ⟨x, h1, h2⟩ := paired_getR t (i := i) (by simpa using e)
    exact ⟨x, by simpa using h1, h2⟩
theorem vals_at : ∀ {xs : List V} {vs : List Value}, xs.length = vs.length → (∀ (j : Nat) (x : V) (v : Value), xs[j]? = some x → vs[j]? = some v → RelV x v) → Vals xs vs
  | [], [], _, _ => .nil
  | x :: xs, v :: vs, hl, h => .cons (h 0 x v rfl rfl) (vals_at (by simpa using hl) fun j y u h1 h2 => h (j + 1) y u (by simpa using h1) (by simpa using h2))
  | [], _ :: _, hl, _ => by simp at hl
  | _ :: _, [], hl, _ => by simp at hl
section
variable {α : Type} {f : α → Dt} {H : Hp}
theorem ne_keys : ∀ {l : List (α × V)} {xs : List (NestedKey × Addr × Value)}, Paired (NE f H) l xs → TvAll H (l.map fun kv => f kv.1) (xs.map fun q => V.ref q.2.1)
  | _, _, .nil => trivial
  | _, _, .cons h t => ⟨h.2.1, ne_keys t⟩
end
section
variable {X : Cx} {P : Program} {w : World}
theorem call_lenN (hP : X.prog = P := by rfl) (hw : X.w = w := by rfl) : CallR X (.builtin "len") (fun xs H Q => ∃ (a : Addr) (α : Type) (f : α → Dt) (l : List (α × V)), KeyF f ∧ xs = [V.ref a] ∧ NdAt P w H a f l ∧ Q (.int l.length) H) := by
  subst hP hw
  intro pins s σ H xs us Q I r h
  obtain ⟨a, α, f, l, F, rfl, ⟨ys, e, pr⟩, q⟩ := h
  obtain ⟨u, rfl, ru⟩ := vals1 r
  cases ru
  obtain ⟨z1, z2, dd⟩ := nd_dict F I (.inl e) pr
  have hl : l.length = ys.length := Paired.length pr
  have dk : s.heap.DictKeyed (nestedKind X.prog X.w) a (pairsH ys) := ⟨ys, dd, rfl⟩
  have e2 : (pairsH ys).length = l.length := by rw [pairsH_length, hl]
  refine PyProof.Rows.call_len_slot (n := l.length) dk.typeIs PySem.F.slot_dict_len (fun Q' hq => len_keyed z1 dk (by rw [e2]; exact hq)) (by omega) (by rw [sizeLine_eq] at z2; omega) ?_
  exact ⟨.int l.length, H, I.tok _, ⟨_, rfl⟩, q⟩
theorem call_listN (hcalm : X.calm = true := by rfl) (hP : X.prog = P := by rfl) (hw : X.w = w := by rfl) : CallR X (.type "list") (fun xs H Q => ∃ (a : Addr) (α : Type) (f : α → Dt) (l : List (α × V)), KeyF f ∧ xs = [V.ref a] ∧ NdAt P w H a f l ∧
    ∀ p ys, H p = none → TvAll H (l.map fun kv => f kv.1) ys → Q (.ref p) (upd H p (.lst ys))) := by
  subst hP hw
  intro pins s σ H xs us Q I r q
  obtain ⟨a, α, f, l, F, rfl, ⟨ys, e, pr⟩, q⟩ := q
  obtain ⟨u, rfl, rx⟩ := vals1 r
  cases rx
  obtain ⟨z1, z2, dd⟩ := nd_dict F I (.inl e) pr
  obtain ⟨es, ep, hr, hs, he⟩ := dd.raw
  refine PySem.W.kdl_call (KdlSrc.rawDict z1) (I.ok.hd hcalm) hr (by rw [hs]; exact z2) fun h' tk acc c' hk hD hacc => ?_
  have hlen : acc.toList.length = ys.length := by rw [Array.length_toList, hacc.1, hs]
  have hv : Vals (ys.map fun q => V.ref q.2.1) acc.toList := by
    refine vals_at (by rw [List.length_map]; exact hlen.symm) fun j x v h1 h2 => ?_
    obtain ⟨hi, ev⟩ := hacc.2 j v (by rw [← Array.getElem?_toList]; exact h2)
    obtain ⟨y, hy, k1, _, _⟩ := he j hi
    rw [List.getElem?_map, hy] at h1
    cases h1
    rw [ev, k1]
    rfl
  refine ⟨.ref s.heap.objs.size, upd H s.heap.objs.size (.lst (ys.map fun q => V.ref q.2.1)), I.laid (t' := tk) hk (Nat.le_refl _)
    (show ObjOk X.prog X.w _ _ _ (.lst (ys.map fun q => V.ref q.2.1)) from ⟨by rw [List.length_map]; exact z2, acc.toList, c', hv, by rw [Array.toArray_toList]; exact hD⟩), rfl, q _ _ (I.hok.fresh (Nat.le_refl _)) (ne_keys pr)⟩
end
def Itkn (P : Program) (w : World) (d : Addr) (o : Obj) (xs : List (NestedKey × Addr × Value)) : It :=
  ⟨fun i H => H d = some (.frz o (.ext (NdRaw P w d xs))) ∧ i < xs.length, fun i H x H' => H' = H ∧ ∃ e, xs[i]? = some e ∧ x = .ref e.2.1, fun i H => H d = some (.frz o (.ext (NdRaw P w d xs))) ∧ xs.length ≤ i⟩
theorem walk_keysN {P : Program} {w : World} {d : Addr} {o : Obj} {xs : List (NestedKey × Addr × Value)} : Walk (Itkn P w d o xs) xs.length (fun H => H d = some (.frz o (.ext (NdRaw P w d xs)))) (fun i H x H' => H' = H ∧ ∃ e, xs[i]? = some e ∧ x = .ref e.2.1) :=
  ⟨fun _ _ hi q => ⟨q, hi⟩, fun _ q => ⟨q, Nat.le_refl _⟩, fun _ _ _ _ _ _ y => y⟩
section
variable {X : Cx} {pins : List (Addr × Obj)} {σ : L2.St} {H : Hp} {s : Shared} {d : Addr} {o : Obj} {xs : List (NestedKey × Addr × Value)}
theorem frzN (I : Inv X pins σ H s) (h : H d = some (.frz o (.ext (NdRaw X.prog X.w d xs)))) :
    (d == sysModules) = false ∧ s.heap.get? d = some o ∧ o.ExactDict ∧ ∃ (es : Array DictEntry) (ep : Nat), o.data = .dict es ep ∧ es.size = xs.length ∧ ∀ (i : Nat) (y : NestedKey × Addr × Value), xs[i]? = some y → ∃ en : DictEntry, es[i]? = some en ∧ en.key = .ref y.2.1 := by
  obtain ⟨hd, ⟨z1, z2, z3, o', es, ep, ho, hx, hdt, he⟩, _⟩ := I.hok d _ h
  rw [hd] at ho
  cases ho
  refine ⟨z1, hd, hx, es, ep, hdt, size_of_entries he, fun i y hy => ?_⟩
  have q := entry_at he i
  rw [hy] at q
  exact ⟨_, q, rfl⟩
end
section
variable {P : Program} {w : World} {K : PySem.W.Frag} {tg : Expr} {d : Addr} {o : Obj} {es : Array DictEntry} {ep : Nat} {xs : List (NestedKey × Addr × Value)}
theorem turn_keysN (it : Addr) (hod : o.data = .dict es ep) : Turn P w K tg (Itkn P w d o xs) [it] it (fun i h => h.IsKeyIter it d i xs.length ep) where
  mem := by simp
  obj := fun i h st b hb => by
    have e : b = it := by simpa using hb
    subst e
    obtain ⟨oi, e, c, dd⟩ := st
    exact ⟨oi, e, fun v z => by rw [dd] at z; cases z⟩
  keep := fun i h h' st k => st.at fun oi e => k it (by simp) oi e
  item := by
    intro X hP hw hK hc i pins s σ H E I hf st hg
    subst hP hw hK
    obtain ⟨hd, hi⟩ := hg
    obtain ⟨f0, f1, f2, f3, f4, f5⟩ := hf it (by simp)
    obtain ⟨hs, hgd, hx, es', ep', hdt, hsz, ent⟩ := frzN I hd
    obtain ⟨rfl, rfl⟩ := dict_ep hod hdt
    obtain ⟨y, hy⟩ : ∃ p, xs[i]? = some p := ⟨xs[i], List.getElem?_eq_getElem hi⟩
    obtain ⟨en, hen, hkey⟩ := ent i y hy
    refine next_key_item st hgd hdt hsz hen fun h' st' sb => ?_
    have I1 : Inv X pins σ H { s with heap := h' } := I.turned (t' := s.toks) (fun b ob hb e => (sb.2 b hb).trans e) f0 f1 f3 f4 f5
    obtain ⟨oi, e, c, dd⟩ := id st'
    exact ⟨en.key, rfl, go_of (s := { s with heap := h' }) e c dd (by decide) ⟨.ref y.2.1, H, I1, hkey, ⟨rfl, y, hy, rfl⟩, st', fun b hb => (hf b hb).1⟩⟩
  done := by
    intro X hP hw hK hc i pins s σ H E I hf st hg
    subst hP hw hK
    obtain ⟨hd, hi⟩ := hg
    obtain ⟨f0, f1, f2, f3, f4, f5⟩ := hf it (by simp)
    obtain ⟨hs, hgd, hx, es', ep', hdt, hsz, ent⟩ := frzN I hd
    obtain ⟨rfl, rfl⟩ := dict_ep hod hdt
    exact next_key_end (I.ok.hd hc) st hgd hdt hsz hi fun h' eb => ⟨rfl, I.turned (t' := s.toks) (fun b ob hb e => eb b ob hb e) f0 f1 f3 f4 f5⟩
  self := fun A i s Q E st h => by
    refine wpAny_pyIter_slot st.typeIs F.slot_dict_keyiterator_iter (wpAny_call_entry F.slot_dict_keyiterator_iter st.typeIs F.entry_dict_keyiterator_iter ?_ (F.args_dict_keyiterator_iter_1 _))
    show wpAny _ _ (ret (.ref it)) _ _ s
    exact wpAny_pure ⟨_, rfl, "dict_keyiterator", _, st.typeIs, F.slot_dict_keyiterator_next.lookup, h⟩
end
def iKeysN (P : Program) (w : World) (td : TE) : TI := fun σ H R => td σ H fun x H1 => ∃ d o xs, x = .ref d ∧ H1 d = some (.frz o (.ext (NdRaw P w d xs))) ∧ R (Itkn P w d o xs) H1
theorem pi_keysN {X : Cx} {P : Program} {w : World} {tg e : Expr} {td : TE} (he : PE X e td) (hP : X.prog = P := by rfl) (hw : X.w = w := by rfl) : PI X tg e (iKeysN P w td) := by
  subst hP hw
  refine ⟨fun pins s σ H R I h => ?_⟩
  refine thn (he.run pins s σ H _ I h) fun u s1 ⟨x, H1, I1, rx, d, o, xs, ex, hd, q⟩ => ?_
  subst ex
  obtain rfl : u = Value.ref d := rx
  obtain ⟨hs, hgd, hx, es, ep, hdt, hsz, ent⟩ := frzN I1 hd
  refine iter_keys hs hgd hx hdt (pi_one (tk := s1.toks) I1 _ (turn_keysN _ hdt) ⟨_, Heap.get?_push_size _ rfl, rfl, ?_⟩ q)
  rw [hsz] <;> rfl
def mergeN {α : Type} [DecidableEq α] (kvs : List (α × V)) (more : List (α × V)) : List (α × V) := more.foldl (fun acc kv => putK acc kv.1 kv.2) kvs
section
variable {X : Cx} {P : Program} {w : World} {K : PySem.W.Frag}
theorem ne_merge {α : Type} [DecidableEq α] {f : α → Dt} (F : KeyF f) {H : Hp} : ∀ {more : List (α × V)} {rs : List (NestedKey × Addr × Value)} {l : List (α × V)} {xs : List (NestedKey × Addr × Value)}, Paired (NE f H) more rs → Paired (NE f H) l xs → Paired (NE f H) (mergeN l more) (storedAllH xs rs) := by
  intro more rs l xs r
  induction r generalizing l xs with
  | nil => intro q; exact q
  | @cons p q ps qs h t ih =>
    intro r0
    have e := ne_put F r0 p.1 h.2.1 h.2.2
    rw [← h.1] at e
    exact ih e
theorem length_mergeN {α : Type} [DecidableEq α] : ∀ (more kvs : List (α × V)), (mergeN kvs more).length ≤ kvs.length + more.length
  | [], kvs => by show kvs.length ≤ kvs.length + 0; omega
  | p :: r, kvs => by
    have h1 := length_mergeN r (putK kvs p.1 p.2)
    have h2 := length_putK kvs p.1 p.2
    show (mergeN (putK kvs p.1 p.2) r).length ≤ _
    rw [List.length_cons]; omega
theorem pairs_ofN {pins : List (Addr × Obj)} {σ : L2.St} {H : Hp} {s : Shared} (I : Inv X pins σ H s) {α : Type} {f : α → Dt} (F : KeyF f) : ∀ {ps : List Addr} {l : List (α × V)}, Paired (fun p kv => ∃ b, H p = some (.tup [.ref b, kv.2]) ∧ Tv H (f kv.1) (.ref b)) ps l →
    ∃ rs : List (NestedKey × Addr × Value), Paired (NE f H) l rs ∧ rs.length = ps.length ∧ ∀ (j : Nat) (q : NestedKey × Addr × Value), rs[j]? = some q → ∃ p, ps[j]? = some p ∧ s.heap.IsTuple p #[.ref q.2.1, q.2.2]
  | _, _, .nil => ⟨[], .nil, rfl, fun j q e => by simp at e⟩
  | _, _, .cons (a := p) (b := kv) h t => by
    obtain ⟨rs, r, hl, hp⟩ := pairs_ofN I F t
    obtain ⟨b, h1, h2⟩ := h
    obtain ⟨its, rv, ht, _⟩ := I.tuple (SqT.of h1)
    obtain ⟨u, y, ei, ru, ry⟩ := vals2 rv
    subst ei
    cases ru
    refine ⟨((f kv.1).key, b, y) :: rs, .cons ⟨rfl, h2, ry⟩ r, by rw [List.length_cons, List.length_cons, hl], fun j q e => ?_⟩
    cases j with
    | zero =>
      have e' : ((f kv.1).key, b, y) = q := Option.some.inj e
      subst e'
      exact ⟨p, rfl, ht⟩
    | succ j =>
      obtain ⟨p', e1, e2⟩ := hp j q (by simpa using e)
      exact ⟨p', by simpa using e1, e2⟩
theorem call_dictN (hcalm : X.calm = true := by rfl) (hP : X.prog = P := by rfl) (hw : X.w = w := by rfl) (hu : X.A.units + 64 < cLine) : CallR X (.type "dict") (fun xs H Q => ∃ (a : Addr) (ps : List Addr) (α : Type) (_ : DecidableEq α) (f : α → Dt) (l : List (α × V)), KeyF f ∧ xs = [V.ref a] ∧ H a = some (.lst (ps.map V.ref)) ∧
    Paired (fun p kv => ∃ b, H p = some (.tup [.ref b, kv.2]) ∧ Tv H (f kv.1) (.ref b)) ps l ∧ ∀ p o, H p = none → (∀ xs, o ≠ .tup xs) → NdAt P w (upd H p o) p f (mergeN [] l) → Q (.ref p) (upd H p o)) := by
  subst hP hw
  intro pins s σ H xs us Q I r q
  obtain ⟨a, ps, α, dα, f, l, F, rfl, ha, hp, q⟩ := q
  obtain ⟨u, rfl, rx⟩ := vals1 r
  cases rx
  obtain ⟨its, rv, pl, hz⟩ := I.list (SqL.of ha)
  have ei := refs_at rv
  subst ei
  rw [List.length_map] at hz
  obtain ⟨rs, pr, hl, hrs⟩ := pairs_ofN I F hp
  obtain ⟨ol, nl, ho, hc, hd, hdt⟩ : ∃ o n, s.heap.get? a = some o ∧ o.cls = .type "list" ∧ o.dict = none ∧ o.data = .seq (ps.map Value.ref).toArray n := by
    obtain ⟨_, its2, n2, rv2, e2⟩ := (show ObjOk X.prog X.w H s.heap a (.lst (ps.map V.ref)) from I.hok a _ ha)
    have ei := refs_at rv2
    subst ei
    exact ⟨_, n2, e2, rfl, rfl, rfl⟩
  have hm : (s.heap.objs.size == sysModules) = false := beq_eq_false_iff_ne.mpr (Nat.ne_of_gt I.big)
  have P := PairArg.list (prog := X.prog) (w := X.w) a (ps.map Value.ref).toArray (fun j => ps.getD j 0) (rs.map fun q => (Value.ref q.2.1, q.2.2))
  have hln : (rs.map fun q => (Value.ref q.2.1, q.2.2)).length = rs.length := List.length_map _
  refine call_dict_pairsH (knd := nestedKind X.prog X.w) (ps := rs) P (I.ok.hd hcalm) (by show X.A.units + 1 + 1 + 8 < cLine; omega) ⟨⟨ol, nl, ho, hc, hd, hdt⟩, ?_, fun j k v hj => ?_⟩ ⟨hln.symm, fun i key v hr => ?_⟩ ?_ (by rw [hln, hl]; exact hz) fun h' tk dd hk => ?_
  · rw [hln, hl]
    simp
  · rw [List.getElem?_map] at hj
    cases hq : rs[j]? with
    | none =>
      rw [hq] at hj
      cases hj
    | some y =>
      rw [hq] at hj
      cases hj
      obtain ⟨p, h1, h2⟩ := hrs j y hq
      have e3 : ps.getD j 0 = p := by rw [List.getD_eq_getElem?_getD, h1]; rfl
      refine ⟨?_, ?_⟩
      · show (ps.map Value.ref).toArray[j]? = _
        rw [List.getElem?_toArray, List.getElem?_map, h1]
        show some (Value.ref p) = some (Value.ref (ps.getD j 0))
        rw [e3]
      · show PairAt s.heap (ps.getD j 0) _ _
        rw [e3]
        exact .inl h2
  · have hr : (rs.map fun q => (Value.ref q.2.1, q.2.2))[i]? = some (key, v) := hr
    rw [List.getElem?_map] at hr
    cases hq : rs[i]? with
    | none =>
      rw [hq] at hr
      cases hr
    | some y =>
      rw [hq] at hr
      cases hr
      exact ⟨y.1, y.2.1, rfl, rfl⟩
  · intro h' hk x hx
    exact nestedKind_stays.stays (fun b ob vs n e _ => hk b ob (Nat.ne_of_lt (Heap.lt_size e)) (fun z => nomatch z) e) (ne_is F I pr x hx)
  · have ln : (storedAllH [] rs).length ≤ sizeLine := by
      have e1 := Paired.length (ne_merge F pr (l := []) .nil)
      have e2 := length_mergeN l []
      have e3 := Paired.length pr
      rw [← e1]
      simp only [List.length_nil] at e2
      omega
    have hn := I.hok.fresh (Nat.le_refl s.heap.objs.size)
    refine ⟨.ref s.heap.objs.size, _, I.laid (a := s.heap.objs.size) (o := .ext (NdRaw X.prog X.w s.heap.objs.size (storedAllH [] rs))) (t' := tk) (fun b u e => hk b u (fun z => nomatch z) e) (Nat.le_refl _) (nd_new hm ln dd), rfl, q _ _ hn (by intro _ z; cases z) ⟨_, upd_same, NE.keeps (tk_new hn) (ne_merge F pr .nil)⟩⟩
end
end Lv
set_option maxHeartbeats 4000000
namespace Lv
open PySem PySem.Spec PyProof.Rows L2
mutual
def Dt.py : Dt → PyData
  | .non => .none
  | .bl b => .bool b
  | .int i => .int i
  | .str x => .str x
  | .tup l => .tuple (Dt.pys l)
def Dt.pys : List Dt → List PyData
  | [] => []
  | d :: r => Dt.py d :: Dt.pys r
end
mutual
theorem Tv.dp {K : PySem.W.Frag} {H : Hp} : ∀ {d : Dt} {v : V}, Tv H d v → Dp K H v d.py
  | .non, v, h => by
    obtain rfl := h
    exact .non
  | .bl b, v, h => by
    obtain rfl := h
    exact .bl b
  | .int i, v, h => by
    obtain rfl := h
    exact .int i
  | .str x, v, h => by
    obtain rfl := h
    exact .str x
  | .tup l, v, h => by
    obtain ⟨a, xs, rfl, e, t⟩ := h
    exact .tup (SqT.of e) (TvAll.dp t)
theorem TvAll.dp {K : PySem.W.Frag} {H : Hp} : ∀ {ds : List Dt} {vs : List V}, TvAll H ds vs → DpAll K H vs (Dt.pys ds)
  | [], [], _ => .nil
  | d :: ds, v :: vs, h => .cons (Tv.dp h.1) (TvAll.dp h.2)
  | [], _ :: _, h => h.elim
  | _ :: _, [], h => h.elim
end
def sortD (bs : List (V × Dt)) : List (V × Dt) := bs.mergeSort (PySem.W.dataLe false fun b => b.2.py)
theorem sortD_perm (bs : List (V × Dt)) : (sortD bs).Perm bs := List.mergeSort_perm _ _
def rSortD (K : PySem.W.Frag) : List V → Hp → VK → Prop := fun vs H Q => ∃ (a : Addr) (bs : List (V × Dt)), vs = [.ref a] ∧ SqL K H a (bs.map Prod.fst) ∧ (∀ b ∈ bs, Tv H b.2 b.1) ∧ PySem.W.AllAlike (bs.map fun b => b.2.py) ∧ PySem.W.Sortable (bs.map fun b => b.2.py) ∧ (∀ b ∈ bs, b.2.py.depth ≤ 8) ∧
  ∀ p, H p = none → Q (.ref p) (upd H p (.lst ((sortD bs).map Prod.fst)))
theorem each_of {R : Value → V × Dt → Prop} : ∀ {bs : List (V × Dt)} {its : List Value}, Vals (bs.map Prod.fst) its → (∀ b ∈ bs, ∀ v, RelV b.1 v → R v b) → PySem.W.EachIs R its bs
  | [], its, r, _ => by
    cases r
    exact .nil
  | b :: bs, its, r, h => by
    rw [List.map_cons] at r
    cases r with
    | cons r1 r2 => exact .cons (h b List.mem_cons_self _ r1) (each_of r2 fun b hb => h b (List.mem_cons_of_mem _ hb))
theorem vals_each : ∀ {bs : List (V × Dt)} {out : List Value}, PySem.W.EachIs (fun v (b : V × Dt) => RelV b.1 v) out bs → Vals (bs.map Prod.fst) out
  | _, _, .nil => .nil
  | _, _, .cons h t => .cons h (vals_each t)
theorem sortedDK {X : Cx} {K : PySem.W.Frag} (hu : X.A.units + 64 < cLine) (hK : X.K = K := by rfl) : CallR X (.builtin "sorted") (rSortD K) := by
  subst hK
  intro pins s σ H vs us Q I r q
  obtain ⟨a, bs, rfl, hq, hd, al, so, dp, q⟩ := q
  obtain ⟨u, rfl, ru⟩ := vals1 r
  cases ru
  obtain ⟨its, rv, p, hz⟩ := I.list hq
  rw [List.length_map] at hz
  refine PySem.W.sorted_data (R := fun v (b : V × Dt) => RelV b.1 v) (enc := fun b => b.2.py) (vs := its) (bs := bs) p.isList (each_of rv fun b hb v h => h) (each_of rv fun b hb v h => Dp.reads I _ _ _ (Tv.dp (hd b hb)) h) al so hz (fun b hb => by
    have := dp b hb
    show X.A.units + 2 + (b.2.py).depth < cLine
    omega) fun out hl eo => ?_
  obtain ⟨c, hc⟩ := sortedAll_at s.heap its out.toArray
  have rel := vals_each eo
  have hf := I.hok.fresh (Nat.le_succ s.heap.objs.size)
  refine ⟨.ref (s.heap.objs.size + 1), upd H (s.heap.objs.size + 1) (.lst ((sortD bs).map Prod.fst)), I.laid (t' := s.toks) (fun b u e => sortedAll_old e) (Nat.le_succ _) (show ObjOk X.prog X.w _ _ _ (.lst ((sortD bs).map Prod.fst)) from ⟨?_, out, c, rel, hc⟩), rfl, q _ hf⟩
  rw [List.length_map, (sortD_perm bs).length_eq]
  exact hz
end Lv
set_option maxHeartbeats 4000000
namespace PySem
open Sem (wp)
open AutoSeq1 (wpAny_loadPart')
theorem meets_enumerate_newT (l : Addr) (items : Array Value) (n : Nat) (dct : Option Addr) (sl : Array (Option Value)) :
    Meets (Builtin.«enumerate.__new__» ⟨[.type "enumerate", .ref l], []⟩) (fun _ R s => s.heap.get? l = some { cls := .type "tuple", dict := dct, data := .seq items n, slots := sl } ∧
      R (.ok (.ret (.ref (s.heap.push { cls := .type "tuple_iterator", data := .fields #[.ref l, .int 0 0] }).objs.size)))
        { s with heap := (s.heap.push { cls := .type "tuple_iterator", data := .fields #[.ref l, .int 0 0] }).push { cls := .type "enumerate", data := .fields #[.none, .bool false, .ref s.heap.objs.size, rawInt 0, .none, .none] } }) :=
  .of_wp fun prog w A R s h => by
    obtain ⟨hp, g, d, tk, os⟩ := s; obtain ⟨hl, h⟩ := h
    have hsub := sub_enumerate
    have hL : Heap.IsTuple (Shared.heap ⟨hp, g, d, tk, os⟩) l items := ⟨_, hl, rfl, n, rfl⟩
    wp_walk using wpAny_loadPart' hl
    refine wpAny_stack_any fun st => wpAny_pure ?_
    split
    · rename_i c _ _ _ _ _
      cases (c == Value.type "enumerate")
      · wp_walk using wpAny_loadPart' hl, wpAny_pyIter_tuple hL
        exact ⟨_, rfl, h⟩
      · wp_walk using wpAny_loadPart' hl, wpAny_pyIter_tuple hL
        exact ⟨_, rfl, h⟩
    · wp_walk using wpAny_loadPart' hl, wpAny_pyIter_tuple hL
      exact ⟨_, rfl, h⟩
section
variable {prog : Program} {w : World} {A : Around} {E : Value → Shared → Prop} {s : Shared}
theorem call_enumerate_tuple {l : Addr} {items : Array Value} {Q : Value → Shared → Prop} (hL : s.heap.IsTuple l items)
    (h : ∀ h', IsEnum h' (s.heap.objs.size + 1) s.heap.objs.size 0 .none → h'.IsTupleIter s.heap.objs.size l 0 → h'.objs.size = s.heap.objs.size + 2 →
      (∀ b o, s.heap.get? b = some o → h'.get? b = some o) → Q (.ref (s.heap.objs.size + 1)) { s with heap := h' }) :
    wpAny (model prog w) A (call (.type "enumerate") [.ref l]) Q E s := by
  obtain ⟨⟨c, dct, dt, sl⟩, hl, hc, n, hd⟩ := hL
  replace hc : c = .type "tuple" := hc
  replace hd : dt = .seq items n := hd
  subst hc hd
  refine callType_new F.called_enumerate (by decide) (F.typeCall_enumerate_1 _) (F.newCall_enumerate_1 _) (fun obj => F.args_object_init_2 obj _) F.entry_enumerate_new
    (meets_enumerate_newT l items n dct sl) ⟨hl, ?_⟩
  have hz : (s.heap.push { cls := .type "tuple_iterator", data := .fields #[.ref l, .int 0 0] }).objs.size = s.heap.objs.size + 1 := Heap.size_push ..
  show _ ∧ _
  rw [hz]
  have he : IsEnum ((s.heap.push { cls := .type "tuple_iterator", data := .fields #[.ref l, .int 0 0] }).push
      { cls := .type "enumerate", data := .fields #[.none, .bool false, .ref s.heap.objs.size, rawInt 0, .none, .none] }) (s.heap.objs.size + 1) s.heap.objs.size 0 .none := by
    have := Heap.get?_push_size (s.heap.push { cls := .type "tuple_iterator", data := .fields #[.ref l, .int 0 0] })
      (o := { cls := .type "enumerate", data := .fields #[.none, .bool false, .ref s.heap.objs.size, rawInt 0, .none, .none] }) rfl
    rw [hz] at this; exact this
  refine ⟨⟨_, he, rfl⟩, h _ he ⟨_, Heap.get?_push_of_some _ (Heap.get?_push_size _ rfl), rfl, rfl⟩ (by rw [Heap.size_push, hz]) fun b o x => Heap.get?_push_of_some _ (Heap.get?_push_of_some _ x)⟩
theorem wpAny_pyNext_enum_endT {e it l : Addr} {i : Nat} {items : Array Value} {old : Value} {Q : Option Value → Shared → Prop} (hh : A.handled = none) (hne : l ≠ it)
    (he : IsEnum s.heap e it i old) (hit : s.heap.IsTupleIter it l i) (hl : s.heap.IsTuple l items) (hx : items[i]? = none)
    (hQ : ∀ h', Heap.ExtBut it s.heap h' → Q none { s with heap := h' }) : wpAny (model prog w) A (pyNext (.ref e)) Q E s := by
  have hT : s.TypeIs (.ref e) "enumerate" := ⟨_, he, rfl⟩
  unfold pyNext
  refine wpAny_bind (wpAny_attempt (wpAny_callSpecial?_slot (name := Str.ofString "__next__") hT F.slot_enumerate_next
    (wpAny_call_entry F.slot_enumerate_next hT F.entry_enumerate_next ?_ (F.args_enumerate_next_1 _))))
  show wpAny _ _ (field (.ref e) 2 >>= _) _ _ _
  refine wpAny_bind (wpAny_field he rfl (x := .ref it) rfl ?_)
  refine wpAny_bind (wpAny_nextOf_tuple_end hh hit hl hx fun h' x he' hx' => ?_)
  obtain ⟨o, ho, hc⟩ := hx'
  refine wpAny_bind (wpAny_isInstance (T := "StopIteration") (b := true) ⟨o, ho, hc⟩ isSubtype_stop ?_)
  exact wpAny_pure (hQ _ he')
end
end PySem
namespace Lv
open PySem PySem.Spec PyProof.Rows L2
def IteT (K : PySem.W.Frag) (a : Addr) : It :=
  ⟨fun i H => ∃ (xs : List V) (x : V), SqT K H a xs ∧ xs[i]? = some x, fun i H v H' => ∃ T x, v = .ref T ∧ H T = none ∧ H' = upd H T (.tup [.int (i : Nat), x]) ∧ ∀ xs, SqT K H a xs → xs[i]? = some x, fun i H => ∃ xs : List V, SqT K H a xs ∧ xs.length ≤ i⟩
theorem turn_enumT {P : Program} {w : World} {K : PySem.W.Frag} {elts : List Expr} {kk : Nat} {tpos : Pos} (a e it : Addr) (hae : a ≠ e) (hai : a ≠ it) :
    Turn P w K (.Tuple elts kk tpos) (IteT K a) [e, it] e (fun i h => (∃ old, IsEnum h e it ((i : Nat) : Int) old) ∧ h.IsTupleIter it a i ∧ e ≠ it) where
  mem := by simp
  obj := fun i h st b hb => by
    obtain ⟨⟨old, he⟩, ⟨o, ho, hc, hd⟩, _⟩ := st
    have e' : b = e ∨ b = it := by simpa using hb
    rcases e' with z | z
    · rw [z]; exact ⟨_, he, fun v q => nomatch q⟩
    · rw [z]; exact ⟨o, ho, fun v q => by rw [hd] at q; cases q⟩
  keep := fun i h h' st k => let ⟨⟨old, he⟩, hi, hne⟩ := st; ⟨⟨old, k e (by simp) _ he⟩, hi.at fun o q => k it (by simp) o q, hne⟩
  item := by
    intro X hP hw hK hc i pins s σ H E I hf st hg
    subst hP hw hK
    obtain ⟨⟨old, he⟩, hit, hne⟩ := st
    obtain ⟨xs, x, hq, hx⟩ := hg
    obtain ⟨its, rv, p, hz⟩ := I.tuple hq
    obtain ⟨u, hu, ru⟩ := rv.get hx
    have hel : e < s.heap.objs.size := Heap.lt_size he
    have hil : it < s.heap.objs.size := by obtain ⟨_, q, _⟩ := hit; exact Heap.lt_size q
    have hilt : i < its.toArray.size := by
      have := (List.getElem?_eq_some_iff.mp hu).1
      simpa using this
    refine wpAny_pyNext_enum_itemD (Draws.tuple (A := X.A.in1) (show X.A.in1.handled = none from I.ok.hd hc) it a hai its.toArray) he ⟨hit, p⟩ hilt hne (by simp [hne, hae, Ne.symm hae]) fun x' h' tk hPx ho hst' hT hsz hk => ?_
    have ex : x' = u := by
      have q : its[i]? = some x' := by simpa using hPx
      rw [hu] at q
      exact (Option.some.inj q).symm
    subst ex
    refine ⟨_, rfl, wpAny_letOwnedTupleGo_enum (s := { s with heap := h', toks := tk + 1 }) ho fun h'' he' sb => ?_⟩
    have hT2 : h''.get? s.heap.objs.size = some { cls := .type "tuple", data := .seq #[.int i tk, x'] } := (sb.2 _ (Nat.ne_of_gt hel)).trans hT
    have new : ObjOk X.prog X.w (upd H s.heap.objs.size (.tup [.int (i : Nat), x])) h'' s.heap.objs.size (.tup [.int (i : Nat), x]) :=
      ⟨by show 2 ≤ sizeLine; decide, [.int i tk, x'], .cons ⟨_, rfl⟩ (.cons ru .nil), ⟨_, hT2, rfl, _, rfl⟩⟩
    have I1 : Inv X pins σ (upd H s.heap.objs.size (.tup [.int (i : Nat), x])) { s with heap := h'', toks := tk + 1 } :=
      I.turnedNew (ch := [e, it]) (fun b ob hb q => (sb.2 b (fun z => hb (by simp [z]))).trans (hk b ob (fun z => hb (by simp [z])) (fun z => hb (by simp [z])) q)) hf (Nat.le_refl _) new
    refine ⟨.ref s.heap.objs.size, _, I1, rfl, ⟨_, x, rfl, I.hok.fresh (Nat.le_refl _), rfl, fun ys hy => by rw [I.tuple_inj hy hq]; exact hx⟩, ⟨⟨x', ?_⟩, hst'.1.at fun o q => (sb.2 it (Ne.symm hne)).trans q, hne⟩, fun b hb => ?_⟩
    · have e1 : ((i + 1 : Nat) : Int) = (i : Int) + 1 := by omega
      rw [e1]; exact he'
    · have hb' : b < s.heap.objs.size := by
        have e' : b = e ∨ b = it := by simpa using hb
        rcases e' with z | z
        · rw [z]; exact hel
        · rw [z]; exact hil
      rw [upd_ne (Nat.ne_of_lt hb')]
      exact (hf b hb).1
  done := by
    intro X hP hw hK hc i pins s σ H E I hf st hg
    subst hP hw hK
    obtain ⟨⟨old, he⟩, hit, hne⟩ := st
    obtain ⟨xs, hq, hx⟩ := hg
    obtain ⟨its, rv, p, hz⟩ := I.tuple hq
    obtain ⟨f0, f1, f2, f3, f4, f5⟩ := hf it (by simp)
    have hl := rv.length
    refine PySem.wpAny_pyNext_enum_endT (I.ok.hd hc) hai he hit p (by simp; omega) fun h' eb => ⟨rfl, I.turned (t' := s.toks) (fun b o hb q => eb b o hb q) f0 f1 f3 f4 f5⟩
  self := fun A i s Q E st h => let ⟨⟨_, he⟩, _⟩ := st; wpAny_pyIter_enum he h
def iEnumT (K : PySem.W.Frag) (ta : TA) : TI := fun σ H R => ta σ H fun vs H1 => ∃ a xs, vs = [.ref a] ∧ SqT K H1 a xs ∧ R (IteT K a) H1
theorem pi_enumT {X : Cx} {K : PySem.W.Frag} {e : Expr} {ta : TA} {p pos tpos : Pos} {elts : List Expr} {kk : Nat} (hg : Gl X "enumerate") (hm : X.mg "enumerate" = none) (ha : PA X [e] ta) (hs : starEach [e] X.env = [(false, eval e X.env)] := by rfl) (hK : X.K = K := by rfl) :
    PI X (.Tuple elts kk tpos) (.Call (.Name "enumerate" p) [e] [] pos) (iEnumT K ta) := by
  subst hK
  refine ⟨fun pins s σ H R I h => ?_⟩
  refine Call_ (ld_blt I hg hm boot_enumerate (PyProof.Rows.callWith_type1 (thn (ha.run pos pins s σ H _ I h) fun us s1 ⟨vs, H1, I1, r1, q1⟩ => ?_) hs rfl))
  obtain ⟨a, xs, ex, hq, q⟩ := q1
  subst ex
  cases r1 with
  | cons r rr =>
    cases rr
    cases r
    obtain ⟨its, rv, p', hz⟩ := I1.tuple hq
    have hal : a < s1.heap.objs.size := p'.lt
    refine call_enumerate_tuple p' fun h' he hit hsz hk => wpAny_pyIter_enum he ?_
    have I2 : Inv X pins σ H1 { s1 with heap := h' } := I1.kept (t' := s1.toks) hk
    refine ⟨s1.heap.objs.size + 1, [s1.heap.objs.size + 1, s1.heap.objs.size], _, _, H1, rfl, I2, turn_enumT a (s1.heap.objs.size + 1) s1.heap.objs.size (Nat.ne_of_lt (Nat.lt_succ_of_lt hal)) (Nat.ne_of_lt hal), ⟨⟨.none, he⟩, hit, Nat.succ_ne_self _⟩, fun b hb => ?_, q⟩
    have e' : b = s1.heap.objs.size + 1 ∨ b = s1.heap.objs.size := by simpa using hb
    have hle : s1.heap.objs.size ≤ b := by
      rcases e' with z | z
      · rw [z]; exact Nat.le_add_right _ _
      · rw [z]; exact Nat.le_refl _
    exact I1.fpOk hle (I1.hok.fresh hle)
theorem walk_enumT {K : PySem.W.Frag} {a : Addr} {xs : List V} : Walk (IteT K a) xs.length (fun H => SqT K H a xs) (YPair (fun i => some (.int (i : Nat))) (fun i => xs[i]?)) := by
  refine ⟨fun i _ hi q => ⟨xs, xs[i], q, by simp [hi]⟩, fun _ q => ⟨xs, q, Nat.le_refl _⟩, fun i H v H' _ q y => ?_⟩
  obtain ⟨T, x, h1, h2, h3, h4⟩ := y
  exact ⟨T, .int (i : Nat), x, h1, h2, h3, rfl, h4 xs q⟩
end Lv
set_option maxHeartbeats 4000000
namespace Lv
open PySem PySem.Spec PyProof.Rows L2
def ValO (v d : Addr) : HO := .ext fun h => h.IsValuesView v d
section
variable {X : Cx}
theorem mt_update : MtR X "dict.update" (fun x xs H Q => ∃ (a b : Addr) (kvs ms : List (Key × V)), x = .ref a ∧ xs = [.ref b] ∧ a ≠ b ∧ H a = some (.dK kvs) ∧ H b = some (.dK ms) ∧ kvs.length + ms.length ≤ sizeLine ∧ Q .non (upd H a (.dK (mergeK kvs ms)))) := by
  intro pins s σ H x xs v us Q I rx rs h
  obtain ⟨a, b, kvs, ms, rfl, rfl, hne, ha, hb, hz, q⟩ := h
  cases rx
  obtain ⟨u, rfl, ru⟩ := vals1 rs
  cases ru
  obtain ⟨z1, s1, vs, rel, dd⟩ := dk_of I.hok ha
  obtain ⟨z2, s2, ws, rel2, dd2⟩ := dk_of I.hok hb
  have l1 : kvs.length = vs.length := Paired.length rel
  have l2 : ms.length = ws.length := Paired.length rel2
  refine call_meetsIn PySem.F.slot_dict_update dd.typeIs PySem.F.entry_dict_update (PySem.F.args_dict_update_2 _ _) (meets_dict_update (mixKind X.prog X.w) a b hne s2) ⟨vs, ws, dd, dd2, by omega, fun h' d1 d2 hs => ?_⟩
  have he : ∃ q, h'.get? a = some q := let ⟨q, _, _, hq, _⟩ := d1; ⟨q, hq⟩
  have hl := length_mergeK ms kvs
  exact ⟨.non, _, d_write (t' := s.toks) I (by rw [ha]; exact True.intro) hs he (dk_new (by omega) s1 (KV.merge rel2 rel) d1), rfl, q⟩
theorem mt_values : MtR X "dict.values" (fun x xs H Q => ∃ (d : Addr) (kvs : List (Key × V)), x = .ref d ∧ xs = [] ∧ H d = some (.dK kvs) ∧ ∀ v, H v = none → Q (.ref v) (upd H v (ValO v d))) := by
  intro pins s σ H x xs v us Q I rx rs h
  obtain ⟨d, kvs, rfl, rfl, hd, q⟩ := h
  cases rx
  cases rs
  obtain ⟨z1, s1, vs, rel, dd⟩ := dk_of I.hok hd
  refine call_meetsIn PySem.F.slot_dict_values dd.typeIs PySem.F.entry_dict_values (PySem.F.args_dict_values_1 _) (meets_dict_values (mixKind X.prog X.w) d s1) ⟨⟨vs, dd⟩, ?_⟩
  refine ⟨.ref s.heap.objs.size, upd H s.heap.objs.size (ValO s.heap.objs.size d), I.laid (t' := s.toks) (fun b o e => Heap.get?_push_of_some _ e) (Nat.le_refl _) ⟨?_, ⟨_, Heap.get?_push_size _ rfl⟩, ?_⟩, rfl, q _ (I.hok.fresh (Nat.le_refl _))⟩
  · exact ⟨_, Heap.get?_push_size _ rfl, rfl, rfl⟩
  · rintro h1 h2 ⟨o, ho, r⟩ k
    exact ⟨o, k _ ho, r⟩
theorem call_listV (hcalm : X.calm = true := by rfl) : CallR X (.type "list") (fun xs H Q => ∃ (v d : Addr) (kvs : List (Key × V)), xs = [.ref v] ∧ H v = some (ValO v d) ∧ H d = some (.dK kvs) ∧ ∀ p, H p = none → Q (.ref p) (upd H p (.lst (kvs.map (·.2))))) := by
  intro pins s σ H xs us Q I r q
  obtain ⟨v, d, kvs, rfl, hv, hd, q⟩ := q
  obtain ⟨u, rfl, rx⟩ := vals1 r
  cases rx
  obtain ⟨z, lo, vs, rel, dd⟩ := dk_of I.hok hd
  obtain ⟨es, ep, hr, hs, he⟩ := dd.raw
  have l1 : kvs.length = vs.length := Paired.length rel
  have hview : s.heap.IsValuesView v d := (I.hok v _ hv).1
  refine PySem.W.kdl_call (KdlSrc.rawValues (es := es) (ep := ep)) (I.ok.hd hcalm) ⟨hview, hr⟩ (by rw [hs]; omega) fun h' tk acc c' hk hD hacc => ?_
  have hlen : acc.toList.length = vs.length := by rw [Array.length_toList, hacc.1, hs]
  have hvv : Vals (kvs.map (·.2)) acc.toList := by
    refine vals_at (by rw [List.length_map, hlen]; exact l1) fun j x w h1 h2 => ?_
    obtain ⟨hi, ev⟩ := hacc.2 j w (by rw [← Array.getElem?_toList]; exact h2)
    rw [List.getElem?_map] at h1
    cases hk2 : kvs[j]? with
    | none =>
      rw [hk2] at h1
      cases h1
    | some p =>
      rw [hk2] at h1
      cases h1
      obtain ⟨y, hy, h3, h4⟩ := paired_get rel hk2
      obtain ⟨_, e2⟩ := he j hi y.1 y.2 hy
      rw [ev, e2]
      exact h4
  refine ⟨.ref s.heap.objs.size, upd H s.heap.objs.size (.lst (kvs.map (·.2))), I.laid (t' := tk) hk (Nat.le_refl _)
    (show ObjOk X.prog X.w _ _ _ (.lst (kvs.map (·.2))) from ⟨by rw [List.length_map]; exact z, acc.toList, c', hvv, by rw [Array.toArray_toList]; exact hD⟩), rfl, q _ (I.hok.fresh (Nat.le_refl _))⟩
end
end Lv
set_option maxHeartbeats 4000000
namespace L2
open PySem PySem.Spec PyProof.Rows
def keyS (e : Int × Value) : Str := match e.2 with | .str k _ => k | _ => Str.empty
def GoodS (P : Program) (w : World) (e : Int × Value) : Prop := ∃ k tk, e.2 = Value.str k tk ∧ e.1 = (PySem.strKind P w).hash k
def SetS (P : Program) (w : World) (h : Heap) (a : Addr) (S : Str → Bool) (n : Nat) : Prop :=
  ∃ o es ep t, h.get? a = some o ∧ o.ExactSet ∧ o.data = .set es ep t ∧ (∀ e ∈ es.toList, GoodS P w e) ∧ (es.toList.map keyS).Nodup ∧ (∀ k, S k = true ↔ k ∈ es.toList.map keyS) ∧
    es.size < scanBound ∧ t.fits es.size = true ∧ es.size = n ∧ Ris t.place.toList ∧ (w.params.followText "set-order" = true ∨ t.led = true)
section
variable {P : Program} {w : World} {h h' : Heap} {a : Addr} {S : Str → Bool} {n : Nat}
theorem SetS.at (R : SetS P w h a S n) (k : ∀ o, h.get? a = some o → h'.get? a = some o) : SetS P w h' a S n := by
  obtain ⟨o, es, ep, t, ho, r⟩ := R
  exact ⟨o, es, ep, t, k o ho, r⟩
theorem SetS.congr {S' : Str → Bool} (R : SetS P w h a S n) (e : ∀ k, S' k = S k) : SetS P w h a S' n := by
  have q : S' = S := funext e
  rw [q]; exact R
theorem goodS_elems {l : List (Int × Value)} (g : ∀ e ∈ l, GoodS P w e) : ElemsOf (PySem.strKind P w) l := fun e he => by
  obtain ⟨k, tk, h1, h2⟩ := g e he
  exact ⟨⟨k, by rw [h1]; exact strKind_is P w k tk, h2⟩, by rw [h1] <;> rfl⟩
theorem goodS_is {e : Int × Value} (g : GoodS P w e) (k : Str) : (PySem.strKind P w).is k e.2 = true ↔ keyS e = k := by
  obtain ⟨k0, tk, h1, _⟩ := g
  unfold keyS
  rw [h1]
  show ((k0 == k) = true) ↔ k0 = k
  exact beq_iff_eq
theorem goodS_mem {l : List (Int × Value)} (g : ∀ e ∈ l, GoodS P w e) (k : Str) : k ∈ l.map keyS ↔ ∃ e ∈ l, (PySem.strKind P w).is k e.2 = true := by
  rw [List.mem_map]
  exact ⟨fun ⟨e, he, q⟩ => ⟨e, he, (goodS_is (g e he) k).2 q⟩, fun ⟨e, he, q⟩ => ⟨e, he, (goodS_is (g e he) k).1 q⟩⟩
end
section
variable {P : Program} {w : World} {A : Around} {E : Value → Shared → Prop} {s : Shared} {a : Addr} {S : Str → Bool} {n : Nat}
theorem setS_add_tail {g : Bool → Sem Unit} (hg : ∀ (b : Bool) (s₁ : Shared) (Q' : Unit → Shared → Prop), Q' () s₁ → wpAny (model P w) A (g b) Q' E s₁)
    {o : Obj} {es : Array (Int × Value)} {ep : Nat} {t : SetTable} (ho : s.heap.get? a = some o) (hex : o.ExactSet) (hd : o.data = .set es ep t)
    {es1 : Array (Int × Value)} {t2 : SetTable} {S' : Str → Bool} (g1 : ∀ e ∈ es1.toList, GoodS P w e) (nd1 : (es1.toList.map keyS).Nodup) (m1 : ∀ k, S' k = true ↔ k ∈ es1.toList.map keyS)
    (hb1 : es1.size < scanBound) (hf2 : t2.fits es1.size = true) (hr : Ris t2.place.toList) (hl : w.params.followText "set-order" = true ∨ t2.led = true) {wasDummy : Bool} {R : Option Bool → Shared → Prop}
    (hR : ∀ h', Heap.SameBut a s.heap h' → SetS P w h' a S' es1.size → R (some true) { s with heap := h' }) :
    wpAny (model P w) A (do
        storeSet a es1 t2
        if (!wasDummy && t2.tooFull) = true then do
            g (relayAll t2 es1 (SetTable.grown es1.size)).2.2
            storeSet a (relayAll t2 es1 (SetTable.grown es1.size)).1 (relayAll t2 es1 (SetTable.grown es1.size)).2.1
            pure (some true)
          else pure (some true)) R E s := by
  refine wpAny_bind (wpAny_storeSet_of ho hd ?_ (fits_of_scanBound hb1))
  have ho1 := store_at (es' := es1) (t' := t2) ho hd
  have sb1 := Heap.SameBut.update s.heap a (Obj.putSet es1 t2)
  split
  · have pm := relayAll_perm t2 es1 (SetTable.grown es1.size)
    have hf3 := relayAll_fits t2 es1 (SetTable.grown es1.size)
    have hr3 := relayAll_ris t2 es1 (SetTable.grown es1.size)
    have hl3 := relayAll_led t2 es1 (SetTable.grown es1.size)
    generalize relayAll t2 es1 (SetTable.grown es1.size) = Z at pm hf3 hr3 hl3 ⊢
    obtain ⟨es2, t3, gave⟩ := Z
    dsimp only at pm hf3 hr3 hl3 ⊢
    have hsz : es2.size = es1.size := by rw [← Array.length_toList, pm.length_eq, Array.length_toList]
    have hb2 : es2.size < scanBound := by rw [hsz]; exact hb1
    refine wpAny_bind (hg _ _ _ ?_)
    refine wpAny_bind (wpAny_storeSet_of ho1 rfl ?_ (fits_of_scanBound hb2))
    have ho2 := store_at (es' := es2) (t' := t3) ho1 rfl
    refine wpAny_pure (hR _ (sb1.trans (Heap.SameBut.update _ a _)) ?_)
    exact ⟨_, es2, _, t3, ho2, hex, rfl, fun e he => g1 e (pm.mem_iff.mp he), (pm.map keyS).nodup_iff.mpr nd1, fun k => (m1 k).trans (pm.map keyS).mem_iff.symm, hb2, hf3, hsz, hr3,
      hl.imp id fun z => by rw [hl3]; exact z⟩
  · exact wpAny_pure (hR _ sb1 ⟨_, es1, _, t2, ho1, hex, rfl, g1, nd1, m1, hb1, hf2, rfl, hr, hl⟩)
theorem setS_add_hashed {k : Str} {tk : Tok} {Q : Bool → Shared → Prop} (R : SetS P w s.heap a S n) (room : n + 1 < scanBound)
    (hQ : ∀ h', Heap.SameBut a s.heap h' → SetS P w h' a (fun j => S j || decide (j = k)) (if S k = true then n else n + 1) → Q (!S k) { s with heap := h' }) :
    wpAny (model P w) A (setAddHashed a (.str k tk) ((PySem.strKind P w).hash k)) Q E s := by
  obtain ⟨o, es, ep, t, ho, hex, hd, g, nd, hm, hb, hf, hn, hr, hl⟩ := R
  have hkey : (PySem.strKind P w).is k (.str k tk) = true := strKind_is P w k tk
  have hsc : (Value.str k tk).scannable = true := rfl
  have hel : ElemsOf (PySem.strKind P w) es.toList := goodS_elems g
  unfold setAddHashed setAddHashedIn
  refine wpAny_holding (wpAny_bind (wpAny_setState_of ho hd hf ?_))
  dsimp only
  rw [byScan_of hsc hb hel]
  simp only [↓reduceIte]
  unfold setAddByScan
  refine wpAny_bind ?_
  refine wpAny_bind (wpAny_rule ?_)
  refine wpAny_bind (wpAny_setScan_of hkey ho hd hf hel ?_)
  cases hfi : List.findIdx? (fun e => (PySem.strKind P w).is k e.2) es.toList with
  | some j =>
    dsimp only
    obtain ⟨hj, pj, _⟩ := List.findIdx?_eq_some_iff_getElem.mp hfi
    have hSk : S k = true := (hm k).2 ((goodS_mem (P := P) (w := w) g k).2 ⟨es.toList[j], List.getElem_mem hj, pj⟩)
    refine wpAny_pure (wpAny_pure ?_)
    have q := hQ s.heap (Heap.SameBut.refl a s.heap) ⟨o, es, ep, t, ho, hex, hd, g, nd, fun i => by
      rw [Bool.or_eq_true, decide_eq_true_eq, ← hm i]
      exact ⟨fun z => z.elim id (fun e => e ▸ hSk), .inl⟩, hb, hf, by rw [if_pos hSk]; exact hn, hr, hl⟩
    rw [hSk] at q
    exact q
  | none =>
    dsimp only
    have hnk : k ∉ es.toList.map keyS := fun z => by
      obtain ⟨e, he, q⟩ := (goodS_mem (P := P) (w := w) g k).1 z
      have c := List.findIdx?_eq_none_iff.mp hfi e he
      rw [q] at c
      cases c
    have hSk : S k = false := by
      cases q : S k with
      | false => rfl
      | true => exact absurd ((hm k).1 q) hnk
    have hgw : ∀ (b : Bool) {s₁ : Shared} {Q' : Unit → Shared → Prop}, Q' () s₁ → wpAny (model P w) A (match b with | true => rule "set.scan.the-table-gave-way" | false => pure ()) Q' E s₁ :=
      fun b s₁ Q' q => by cases b <;> first | exact wpAny_pure q | exact wpAny_rule q
    have pm := layNew_perm t es ((PySem.strKind P w).hash k) (.str k tk)
    have hf1 := layNew_fits t es ((PySem.strKind P w).hash k) (.str k tk)
    have hr1 := layNew_ris t es ((PySem.strKind P w).hash k) (.str k tk) hr
    have hl1 := layNew_led t es ((PySem.strKind P w).hash k) (.str k tk)
    generalize layNew t es ((PySem.strKind P w).hash k) (.str k tk) = Z at pm hf1 hr1 hl1 ⊢
    obtain ⟨es1, t1, wasDummy, gave⟩ := Z
    dsimp only at pm hf1 hr1 hl1 ⊢
    rw [Array.toList_push] at pm
    have pc : es1.toList.Perm (((PySem.strKind P w).hash k, Value.str k tk) :: es.toList) := pm.trans (List.perm_append_singleton _ _)
    have pk : (es1.toList.map keyS).Perm (k :: es.toList.map keyS) := pc.map keyS
    have g1 : ∀ e ∈ es1.toList, GoodS P w e := fun e he => by
      rcases List.mem_cons.mp (pc.mem_iff.mp he) with z | z
      · rw [z]; exact ⟨k, tk, rfl, rfl⟩
      · exact g e z
    have nd1 : (es1.toList.map keyS).Nodup := pk.nodup_iff.mpr (List.nodup_cons.mpr ⟨hnk, nd⟩)
    have m1 : ∀ i, (S i || decide (i = k)) = true ↔ i ∈ es1.toList.map keyS := fun i => by
      rw [Bool.or_eq_true, decide_eq_true_eq, hm i, pk.mem_iff, List.mem_cons]
      exact Or.comm
    have hsz : es1.size = n + 1 := by rw [← Array.length_toList, pc.length_eq, List.length_cons, Array.length_toList, hn]
    have hb1 : es1.size < scanBound := by rw [hsz]; exact room
    have hled : w.params.followText "set-order" = true ∨ t1.led = true := hl.imp id fun z => by rw [hl1]; exact z
    have fin : ∀ h', Heap.SameBut a s.heap h' → SetS P w h' a (fun j => S j || decide (j = k)) es1.size → Q true { s with heap := h' } := fun h' sb r => by
      have q := hQ h' sb
      rw [hSk] at q
      rw [hsz] at r
      exact q r
    refine wpAny_bind (hgw _ ?_)
    split
    · refine wpAny_bind ?_
      rw [hashByValue_scannable 8 hsc]
      refine wpAny_pure ?_
      refine setS_add_tail ?_ ho hex hd g1 nd1 m1 hb1 ?_ ?_ ?_ ?_
      · intro b s₁ Q' q; cases b <;> first | exact wpAny_pure q | exact wpAny_rule q
      · first | (split <;> first | exact hf1 | exact SetTable.fits_plain_off hf1) | exact hf1
      · first | (split <;> exact hr1) | exact hr1
      · first | (split <;> exact hled) | exact hled
      · intro h' sb r; dsimp only; exact wpAny_pure (fin h' sb r)
    · refine wpAny_bind (wpAny_pure ?_)
      simp only [↓reduceIte]
      refine setS_add_tail ?_ ho hex hd g1 nd1 m1 hb1 hf1 hr1 hled ?_
      · intro b s₁ Q' q; cases b <;> first | exact wpAny_pure q | exact wpAny_rule q
      · intro h' sb r; dsimp only; exact wpAny_pure (fin h' sb r)
theorem setS_fresh {h : Heap} (w : World) : SetS P w (h.push { cls := .type "set", dict := none, data := .set #[] 0 (.fresh 0 0 (!w.params.followText "set-order")) }) h.objs.size (fun _ => false) 0 :=
  ⟨_, #[], 0, _, Heap.get?_push_size _ rfl, ⟨rfl, rfl, rfl⟩, rfl, (fun e he => by simp at he), (by simp), (fun k => by simp), (by decide), (by rfl), rfl, List.Pairwise.nil, by
    show _ ∨ (!w.params.followText "set-order") = true
    cases w.params.followText "set-order"
    · exact .inr rfl
    · exact .inl rfl⟩
theorem code_set_led1 (b : Value) {Q₁ : Value → Shared → Prop}
    (h : Q₁ (.ref s.heap.objs.size) { s with heap := s.heap.push { cls := .type "set", dict := none, data := .set #[] 0 (.fresh 0 0 (!w.params.followText "set-order")) } }) :
    codeAny (model P w) A (.call (.builtin "set.__new__") ⟨[.type "set", b], []⟩) (wants Q₁ E) s := by
  refine codeAny_of_tree ?_
  show wpAny _ A.in1 (do checkBuiltinCall "set.__new__" ⟨[.type "set", b], []⟩; again (.builtin "set.__new__" ⟨[.type "set", b], []⟩)) _ _ s
  refine wpAny_bind (wpAny_of_eq (PySem.F.newCall_set_1 b) (wpAny_pure ⟨plainId_quiet F.plain_set_new _, codeAny_builtin F.entry_set_new ?_⟩))
  rw [Around.under_plainId F.plain_set_new _]
  unfold Builtin.«set.__new__» Builtin.Frozenset.newClass
  have hsub := sub_set_self
  obtain ⟨hp, g, d, tk, os⟩ := s
  dsimp only
  wp_walk
  refine wpAny_askSetting (wpAny_pure ?_)
  dsimp only
  simp only [newObj]
  refine wpAny_bind (wpAny_alloc (wpAny_pure ?_))
  exact wpAny_pure h
end
end L2
set_option maxHeartbeats 4000000
namespace L2
open PySem PySem.Spec PyProof.Rows
theorem setS_new_at {P : Program} {w : World} {h : Heap} {a : Addr} {ns : List Str} (ho : h.get? a = some { cls := .type "set", dict := none, data := .set #[] 0 (.fresh 0 0 (!w.params.followText "set-order")) }) : SetS P w h a (fun j => decide (j ∈ ns.take 0)) 0 :=
  ⟨_, #[], 0, _, ho, ⟨rfl, rfl, rfl⟩, rfl, (fun e he => by simp at he), (by simp), (fun k => by simp), (by decide), (by rfl), rfl, List.Pairwise.nil, by
    show _ ∨ (!w.params.followText "set-order") = true
    cases w.params.followText "set-order"
    · exact .inr rfl
    · exact .inl rfl⟩
section
variable {P : Program} {w : World} {A : Around} {E : Value → Shared → Prop} {s : Shared}
theorem set_update_strs {I : Addr} {fp wr : List Addr} {G : Array GenState → Array GenState → Prop} {n : Nat} {Pv : Nat → Value → Prop} {St : Nat → Shared → Prop} {R : Result → Shared → Prop}
    (W : WalksS P w A.in1 I fp wr G n Pv St) (S : Addr) (hSf : S ∉ fp) (ns : List Str) (hn : n = ns.length) (hb : ns.length + 1 < scanBound) (hval : ∀ i v, Pv i v → ∃ k t, ns[i]? = some k ∧ v = .str k t) :
    ∀ (k i : Nat) (s : Shared), n - i = k → i ≤ n → St i s → (∃ c, c ≤ i ∧ SetS P w s.heap S (fun j => decide (j ∈ ns.take i)) c) →
      (∀ s' c, Moved (S :: wr) G s s' → c ≤ n → SetS P w s'.heap S (fun j => decide (j ∈ ns)) c → R (.ok (.ret .none)) s') →
      codeAny (model P w) A (.builtin "set.update.loop" ⟨[.ref S, .ref I], []⟩) R s := by
  have hSw : S ∉ wr := fun h => hSf (W.sub _ h)
  have hsub : ∀ b ∈ wr, b ∈ S :: wr := fun b hb => List.mem_cons_of_mem _ hb
  intro k
  induction k with
  | zero =>
    intro i s hk' hi hst ⟨c, hc, hS⟩ hR
    have hin : i = n := by omega
    subst hin
    refine codeAny_builtin PyProof.Rows.F.entry_set_update_loop ?_
    rw [Around.under_plainId PyProof.Rows.F.plain_set_update_loop _]
    show wpAny _ A.in1 (pyNext (.ref I) >>= _) _ _ s
    refine wpAny_bind (W.done s _ _ hst fun s' hm => ?_)
    show wpAny _ A.in1 (ret Value.none) _ _ s'
    have e : ns.take i = ns := List.take_of_length_le (by omega)
    rw [e] at hS
    exact wpAny_pure (hR s' c (hm.mono hsub) hc (hS.at fun o e => hm.heap S o hSw e))
  | succ k ih =>
    intro i s hk' hi hst ⟨c, hc, hS⟩ hR
    have hlt : i < n := by omega
    refine codeAny_builtin PyProof.Rows.F.entry_set_update_loop ?_
    rw [Around.under_plainId PyProof.Rows.F.plain_set_update_loop _]
    show wpAny _ A.in1 (pyNext (.ref I) >>= _) _ _ s
    refine wpAny_bind (W.item i s _ _ hlt hst fun v s' hP hst' hm => ?_)
    obtain ⟨z, t, hz, rfl⟩ := hval i v hP
    have hS' : SetS P w s'.heap S (fun j => decide (j ∈ ns.take i)) c := hS.at fun o e => hm.heap S o hSw e
    show wpAny _ A.in1 (holding [Value.str z t] (setAdd S (.str z t)) >>= _) _ _ s'
    refine wpAny_bind (wpAny_holding ?_)
    unfold setAdd
    refine wpAny_holding ?_
    refine wpAny_bind ((PySem.strKind P w).pyHash (k := z) (strKind_is _ _ _ _) ?_)
    refine setS_add_hashed (s := { s' with toks := s'.toks + 1 }) hS' (by omega) fun h' hsb hS2 => ?_
    have hS3 : SetS P w h' S (fun j => decide (j ∈ ns.take (i + 1))) (if decide (z ∈ ns.take i) = true then c else c + 1) := hS2.congr fun j => by
      rw [List.take_add_one, hz]
      simp [List.mem_append]
    have hc3 : (if decide (z ∈ ns.take i) = true then c else c + 1) ≤ i + 1 := by
      split <;> omega
    refine wpAny_pure ⟨plainId_quiet PyProof.Rows.F.plain_set_update_loop _, ih (i + 1) _ (by omega) hlt (W.frame _ s' _ _ hst' (Nat.le_succ _) fun b hb o e => ?_) ⟨_, hc3, hS3⟩ fun s'' c2 hm'' hc'' hS'' => ?_⟩
    · rw [hsb.2 b (fun h : b = S => hSf (by rw [← h]; exact hb))]; exact e
    · refine hR s'' c2 (Moved.trans W.gtrans ((hm.mono hsub).then_heap (Nat.le_succ _) fun b o hb e => ?_) hm'') hc'' hS''
      rw [hsb.2 b (fun h : b = S => hb (by rw [h]; exact List.mem_cons_self))]; exact e
set_option maxHeartbeats 6400000 in
theorem call_set_tupS {l : Addr} {items : Array Value} (ns : List Str) {Q : Value → Shared → Prop} (hh : A.handled = none) (hl : s.heap.IsTuple l items) (hit : StrsAre items.toList ns) (hb : ns.length + 1 < scanBound)
    (h : ∀ (h' : Heap) (tk c : Nat), SetS P w h' s.heap.objs.size (fun j => decide (j ∈ ns)) c → c ≤ ns.length → (∀ b o, s.heap.get? b = some o → h'.get? b = some o) → Q (.ref s.heap.objs.size) { s with heap := h', toks := tk }) :
    wpAny (model P w) A (call (.type "set") [.ref l]) Q E s := by
  have hisz : items.size = ns.length := by
    have q := PyProof.Rows.StrsAre.len_eq hit
    rw [Array.length_toList] at q
    exact q
  obtain ⟨c, tl, hmro⟩ := F.called_set.mro
  have hmade := F.called_set.made
  have hsub := F.called_set.sub
  refine wpAny_call (codeAny_of_tree ?_)
  show wpAny _ _ (callAny (.type "set") _) _ _ _
  refine wpAny_pure ⟨Code.quiet_builtin _ (by decide +kernel), codeAny_builtin F.entry_type_call ?_⟩
  rw [Around.under_plain (weight_type_call_type "set" [.ref l] []) rfl]
  have h1 := F.called_set.notType
  have h2 := F.called_set.canCreate
  have hct := F.typeCall_set_1 (.ref l)
  repeat (any_goals (first | assumption | wp_step))
  refine codeAny_mono (code_set_led1 (.ref l) (E := E) (Q₁ := fun obj s₁ => obj = .ref s.heap.objs.size ∧ s₁ = { s with heap := s.heap.push { cls := .type "set", dict := none, data := .set #[] 0 (.fresh 0 0 (!w.params.followText "set-order")) } }) ⟨rfl, rfl⟩) fun r s₁ hr => ?_
  cases r with
  | error e => exact hr
  | ok fl =>
    cases fl with
    | ret obj =>
      obtain ⟨rfl, rfl⟩ := hr
      have hS : (s.heap.push { cls := .type "set", dict := none, data := .set #[] 0 (.fresh 0 0 (!w.params.followText "set-order")) }).get? s.heap.objs.size = some { cls := .type "set", dict := none, data := .set #[] 0 (.fresh 0 0 (!w.params.followText "set-order")) } := Heap.get?_push_size _ rfl
      have hT : Shared.TypeIs { s with heap := s.heap.push { cls := .type "set", dict := none, data := .set #[] 0 (.fresh 0 0 (!w.params.followText "set-order")) } } (.ref s.heap.objs.size) "set" := ⟨_, hS, rfl⟩
      have hli := F.called_set.init.lookup
      have hbi := F.called_set.init.bind (.ref s.heap.objs.size)
      repeat (any_goals (first | assumption | wp_step))
      refine codeAny_mono (codeAny_call_builtin (R := wants (fun r s₂ => r = .none ∧ ∃ h' tk c, s₂ = { s with heap := h', toks := tk } ∧ SetS P w h' s.heap.objs.size (fun j => decide (j ∈ ns)) c ∧ c ≤ ns.length ∧
          (∀ b o, s.heap.get? b = some o → h'.get? b = some o)) E) F.called_set.init.plain F.entry_set_init (check_set_init_1 hT ?_)) fun r₂ s₂ hr₂ => ?_
      · obtain ⟨ol, hol, hcl, nl, hdl⟩ := hl
        obtain ⟨ocls, odict, odata, oslots⟩ := ol
        simp only at hcl hdl
        subst hcl; subst hdl
        have hol' : (s.heap.push { cls := .type "set", dict := none, data := .set #[] 0 (.fresh 0 0 (!w.params.followText "set-order")) }).get? l = some { cls := .type "tuple", dict := odict, data := .seq items nl, slots := oslots } := Heap.get?_push_of_some _ hol
        have hsls := F.sub_tuple_set
        have hslf := F.sub_tuple_frozenset
        have hne : (Value.type "tuple" == Value.type "dict") = false := by decide
        have hl1 : (s.heap.push { cls := .type "set", dict := none, data := .set #[] 0 (.fresh 0 0 (!w.params.followText "set-order")) }).IsTuple l items := ⟨_, hol', rfl, nl, rfl⟩
        unfold Builtin.«set.__init__» noKeywords Builtin.Frozenset.updateFrom
        generalize hPI : pyIter = PI
        wp_walk
        subst hPI
        refine wpAny_pyIter_tuple hl1 ?_
        refine wpAny_bind (wpAny_runValue ?_)
        have hlS : l < s.heap.objs.size := Heap.lt_size hol
        have hh3 : A.in1.in1.in1.handled = none := by simp [hh]
        have hz1 : (s.heap.push { cls := .type "set", dict := none, data := .set #[] 0 (.fresh 0 0 (!w.params.followText "set-order")) }).objs.size = s.heap.objs.size + 1 := Heap.size_push ..
        have hneI : l ≠ (s.heap.push { cls := .type "set", dict := none, data := .set #[] 0 (.fresh 0 0 (!w.params.followText "set-order")) }).objs.size := by
          rw [Heap.size_push]; exact Nat.ne_of_lt (Nat.lt_succ_of_lt hlS)
        have hSf : s.heap.objs.size ∉ [(s.heap.push { cls := .type "set", dict := none, data := .set #[] 0 (.fresh 0 0 (!w.params.followText "set-order")) }).objs.size, l] := by
          rw [Heap.size_push]; simp only [List.mem_cons, List.mem_singleton, List.not_mem_nil, or_false, not_or]
          exact ⟨Nat.ne_of_lt (Nat.lt_succ_self _), Nat.ne_of_gt hlS⟩
        have hval : ∀ (i : Nat) (v : Value), items[i]? = some v → ∃ k t, ns[i]? = some k ∧ v = .str k t := fun i v hv => by
          have hi : i < ns.length := by rw [← hisz]; exact (Array.getElem?_eq_some_iff.mp hv).1
          obtain ⟨t, e⟩ := SS.strs_at hit i v (by rw [Array.getElem?_toList]; exact hv)
          refine ⟨ns[i], t, List.getElem?_eq_getElem hi, ?_⟩
          rw [e, List.getD_eq_getElem?_getD, List.getElem?_eq_getElem hi] <;> rfl
        refine set_update_strs ((Walks.tuple hh3 _ l hneI items).toS) s.heap.objs.size
          hSf ns hisz hb hval (items.size - 0) 0 _ (by omega) (Nat.zero_le _)
          ⟨⟨_, Heap.get?_push_size _ rfl, rfl, rfl⟩, (hl1.push _)⟩ ?hS0 ?hR
        case hS0 =>
          have hget : ((s.heap.push { cls := .type "set", dict := none, data := .set #[] 0 (.fresh 0 0 (!w.params.followText "set-order")) }).push { cls := .type "tuple_iterator", data := .fields #[.ref l, .int 0 0] }).get? s.heap.objs.size
              = some { cls := .type "set", dict := none, data := .set #[] 0 (.fresh 0 0 (!w.params.followText "set-order")) } := Heap.get?_push_of_some _ hS
          exact ⟨0, Nat.le_refl 0, setS_new_at hget⟩
        case hR =>
          intro s' c' hm hc' hS'
          obtain ⟨h', g2, d', tk', os'⟩ := s'
          have eg : g2 = s.gens := hm.gens
          have ed : d' = s.drawn := hm.drawn
          have eo : os' = s.os := hm.os
          subst eg; subst ed; subst eo
          show wpAny _ _ _ _ _ _
          refine wpAny_pure ?_
          show wpAny _ _ (ret Value.none) _ _ _
          rw [hisz] at hc'
          refine wpAny_pure ⟨rfl, h', tk', c', rfl, hS', hc', fun b o e => ?_⟩
          have hb0 : b < s.heap.objs.size := Heap.lt_size e
          have hb1 : b ≠ s.heap.objs.size := Nat.ne_of_lt hb0
          have hb2 : b ≠ (s.heap.push { cls := .type "set", dict := none, data := .set #[] 0 (.fresh 0 0 (!w.params.followText "set-order")) }).objs.size := by
            rw [Heap.size_push]; exact Nat.ne_of_lt (Nat.lt_succ_of_lt hb0)
          exact hm.heap b o (by simp only [List.mem_cons, List.mem_singleton, List.not_mem_nil, or_false, not_or]; exact ⟨hb1, hb2⟩) (Heap.get?_push_of_some _ (Heap.get?_push_of_some _ e))
      · cases r₂ with
        | error e => exact hr₂
        | ok fl₂ =>
          cases fl₂ with
          | ret r =>
            obtain ⟨rfl, h', tk, c', rfl, hS', hc', hk'⟩ := hr₂
            repeat (any_goals (first | assumption | wp_step))
            exact h _ _ _ hS' hc' hk'
          | _ => exact hr₂.elim
    | _ => exact hr.elim
set_option maxHeartbeats 6400000 in
theorem call_set_lstS {l : Addr} {items : Array Value} (ns : List Str) {Q : Value → Shared → Prop} (hh : A.handled = none) (hl : s.heap.IsList l items) (hit : StrsAre items.toList ns) (hb : ns.length + 1 < scanBound)
    (h : ∀ (h' : Heap) (tk c : Nat), SetS P w h' s.heap.objs.size (fun j => decide (j ∈ ns)) c → c ≤ ns.length → (∀ b o, s.heap.get? b = some o → h'.get? b = some o) → Q (.ref s.heap.objs.size) { s with heap := h', toks := tk }) :
    wpAny (model P w) A (call (.type "set") [.ref l]) Q E s := by
  have hisz : items.size = ns.length := by
    have q := PyProof.Rows.StrsAre.len_eq hit
    rw [Array.length_toList] at q
    exact q
  obtain ⟨c, tl, hmro⟩ := F.called_set.mro
  have hmade := F.called_set.made
  have hsub := F.called_set.sub
  refine wpAny_call (codeAny_of_tree ?_)
  show wpAny _ _ (callAny (.type "set") _) _ _ _
  refine wpAny_pure ⟨Code.quiet_builtin _ (by decide +kernel), codeAny_builtin F.entry_type_call ?_⟩
  rw [Around.under_plain (weight_type_call_type "set" [.ref l] []) rfl]
  have h1 := F.called_set.notType
  have h2 := F.called_set.canCreate
  have hct := F.typeCall_set_1 (.ref l)
  repeat (any_goals (first | assumption | wp_step))
  refine codeAny_mono (code_set_led1 (.ref l) (E := E) (Q₁ := fun obj s₁ => obj = .ref s.heap.objs.size ∧ s₁ = { s with heap := s.heap.push { cls := .type "set", dict := none, data := .set #[] 0 (.fresh 0 0 (!w.params.followText "set-order")) } }) ⟨rfl, rfl⟩) fun r s₁ hr => ?_
  cases r with
  | error e => exact hr
  | ok fl =>
    cases fl with
    | ret obj =>
      obtain ⟨rfl, rfl⟩ := hr
      have hS : (s.heap.push { cls := .type "set", dict := none, data := .set #[] 0 (.fresh 0 0 (!w.params.followText "set-order")) }).get? s.heap.objs.size = some { cls := .type "set", dict := none, data := .set #[] 0 (.fresh 0 0 (!w.params.followText "set-order")) } := Heap.get?_push_size _ rfl
      have hT : Shared.TypeIs { s with heap := s.heap.push { cls := .type "set", dict := none, data := .set #[] 0 (.fresh 0 0 (!w.params.followText "set-order")) } } (.ref s.heap.objs.size) "set" := ⟨_, hS, rfl⟩
      have hli := F.called_set.init.lookup
      have hbi := F.called_set.init.bind (.ref s.heap.objs.size)
      repeat (any_goals (first | assumption | wp_step))
      refine codeAny_mono (codeAny_call_builtin (R := wants (fun r s₂ => r = .none ∧ ∃ h' tk c, s₂ = { s with heap := h', toks := tk } ∧ SetS P w h' s.heap.objs.size (fun j => decide (j ∈ ns)) c ∧ c ≤ ns.length ∧
          (∀ b o, s.heap.get? b = some o → h'.get? b = some o)) E) F.called_set.init.plain F.entry_set_init (check_set_init_1 hT ?_)) fun r₂ s₂ hr₂ => ?_
      · obtain ⟨ol, hol, hcl, nl, hdl⟩ := hl
        obtain ⟨ocls, odict, odata, oslots⟩ := ol
        simp only at hcl hdl
        subst hcl; subst hdl
        have hol' : (s.heap.push { cls := .type "set", dict := none, data := .set #[] 0 (.fresh 0 0 (!w.params.followText "set-order")) }).get? l = some { cls := .type "list", dict := odict, data := .seq items nl, slots := oslots } := Heap.get?_push_of_some _ hol
        have hsls := F.sub_list_set
        have hslf := F.sub_list_frozenset
        have hne : (Value.type "list" == Value.type "dict") = false := by decide
        have hl1 : (s.heap.push { cls := .type "set", dict := none, data := .set #[] 0 (.fresh 0 0 (!w.params.followText "set-order")) }).IsList l items := ⟨_, hol', rfl, nl, rfl⟩
        unfold Builtin.«set.__init__» noKeywords Builtin.Frozenset.updateFrom
        generalize hPI : pyIter = PI
        wp_walk
        subst hPI
        refine wpAny_pyIter_list hl1 ?_
        refine wpAny_bind (wpAny_runValue ?_)
        have hlS : l < s.heap.objs.size := Heap.lt_size hol
        have hh3 : A.in1.in1.in1.handled = none := by simp [hh]
        have hz1 : (s.heap.push { cls := .type "set", dict := none, data := .set #[] 0 (.fresh 0 0 (!w.params.followText "set-order")) }).objs.size = s.heap.objs.size + 1 := Heap.size_push ..
        have hneI : l ≠ (s.heap.push { cls := .type "set", dict := none, data := .set #[] 0 (.fresh 0 0 (!w.params.followText "set-order")) }).objs.size := by
          rw [Heap.size_push]; exact Nat.ne_of_lt (Nat.lt_succ_of_lt hlS)
        have hSf : s.heap.objs.size ∉ [(s.heap.push { cls := .type "set", dict := none, data := .set #[] 0 (.fresh 0 0 (!w.params.followText "set-order")) }).objs.size, l] := by
          rw [Heap.size_push]; simp only [List.mem_cons, List.mem_singleton, List.not_mem_nil, or_false, not_or]
          exact ⟨Nat.ne_of_lt (Nat.lt_succ_self _), Nat.ne_of_gt hlS⟩
        have hval : ∀ (i : Nat) (v : Value), items[i]? = some v → ∃ k t, ns[i]? = some k ∧ v = .str k t := fun i v hv => by
          have hi : i < ns.length := by rw [← hisz]; exact (Array.getElem?_eq_some_iff.mp hv).1
          obtain ⟨t, e⟩ := SS.strs_at hit i v (by rw [Array.getElem?_toList]; exact hv)
          refine ⟨ns[i], t, List.getElem?_eq_getElem hi, ?_⟩
          rw [e, List.getD_eq_getElem?_getD, List.getElem?_eq_getElem hi] <;> rfl
        refine set_update_strs ((Walks.list hh3 _ l hneI items).toS) s.heap.objs.size
          hSf ns hisz hb hval (items.size - 0) 0 _ (by omega) (Nat.zero_le _)
          ⟨⟨_, Heap.get?_push_size _ rfl, rfl, rfl⟩, (hl1.push _)⟩ ?hS0 ?hR
        case hS0 =>
          have hget : ((s.heap.push { cls := .type "set", dict := none, data := .set #[] 0 (.fresh 0 0 (!w.params.followText "set-order")) }).push { cls := .type "list_iterator", data := .fields #[.ref l, .int 0 0] }).get? s.heap.objs.size
              = some { cls := .type "set", dict := none, data := .set #[] 0 (.fresh 0 0 (!w.params.followText "set-order")) } := Heap.get?_push_of_some _ hS
          exact ⟨0, Nat.le_refl 0, setS_new_at hget⟩
        case hR =>
          intro s' c' hm hc' hS'
          obtain ⟨h', g2, d', tk', os'⟩ := s'
          have eg : g2 = s.gens := hm.gens
          have ed : d' = s.drawn := hm.drawn
          have eo : os' = s.os := hm.os
          subst eg; subst ed; subst eo
          show wpAny _ _ _ _ _ _
          refine wpAny_pure ?_
          show wpAny _ _ (ret Value.none) _ _ _
          rw [hisz] at hc'
          refine wpAny_pure ⟨rfl, h', tk', c', rfl, hS', hc', fun b o e => ?_⟩
          have hb0 : b < s.heap.objs.size := Heap.lt_size e
          have hb1 : b ≠ s.heap.objs.size := Nat.ne_of_lt hb0
          have hb2 : b ≠ (s.heap.push { cls := .type "set", dict := none, data := .set #[] 0 (.fresh 0 0 (!w.params.followText "set-order")) }).objs.size := by
            rw [Heap.size_push]; exact Nat.ne_of_lt (Nat.lt_succ_of_lt hb0)
          exact hm.heap b o (by simp only [List.mem_cons, List.mem_singleton, List.not_mem_nil, or_false, not_or]; exact ⟨hb1, hb2⟩) (Heap.get?_push_of_some _ (Heap.get?_push_of_some _ e))
      · cases r₂ with
        | error e => exact hr₂
        | ok fl₂ =>
          cases fl₂ with
          | ret r =>
            obtain ⟨rfl, h', tk, c', rfl, hS', hc', hk'⟩ := hr₂
            repeat (any_goals (first | assumption | wp_step))
            exact h _ _ _ hS' hc' hk'
          | _ => exact hr₂.elim
    | _ => exact hr.elim
end
end L2
set_option maxHeartbeats 4000000
namespace L2
open PySem PySem.Spec PyProof.Rows
def keyV (v : Value) : Str := match v with | .str k _ => k | _ => Str.empty
theorem strs_ofS : ∀ (l : List Value), (∀ v ∈ l, ∃ k tk, v = Value.str k tk) → StrsAre l (l.map keyV)
  | [], _ => .nil
  | v :: l, h => by
    obtain ⟨k, tk, rfl⟩ := h v List.mem_cons_self
    exact .cons k tk (strs_ofS l fun u hu => h u (List.mem_cons_of_mem _ hu))
theorem nd_len {α : Type} [DecidableEq α] : ∀ {l m : List α}, l.Nodup → (∀ x ∈ l, x ∈ m) → l.length ≤ m.length
  | [], _, _, _ => Nat.zero_le _
  | a :: l, m, h, hm => by
    obtain ⟨h1, h2⟩ := List.nodup_cons.mp h
    have ha := hm a List.mem_cons_self
    have := nd_len (m := m.erase a) h2 fun x hx => (List.mem_erase_of_ne fun e => h1 (by rw [← e]; exact hx)).mpr (hm x (List.mem_cons_of_mem _ hx))
    rw [List.length_erase_of_mem ha] at this
    have hp : 0 < m.length := List.length_pos_of_mem ha
    rw [List.length_cons]
    omega
def SetSO (P : Program) (w : World) (a : Addr) (S : Str → Bool) (n : Nat) : HO := .ext fun h => SetS P w h a S n
section
variable {X : Cx} {P : Program} {w : World} {K : PySem.W.Frag}
theorem setSO_new {H : Hp} {h : Heap} {a : Addr} {S : Str → Bool} {n : Nat} (R : SetS P w h a S n) : ObjOk P w H h a (SetSO P w a S n) := by
  have ⟨o, _, _, _, ho, _⟩ := R
  exact ⟨R, ⟨o, ho⟩, fun h1 h2 p k => SetS.at p k⟩
theorem cr_setS (hc : X.calm = true := by rfl) (hP : X.prog = P := by rfl) (hw : X.w = w := by rfl) (hK : X.K = K := by rfl) : CallR X (.type "set") (fun xs H Q => ∃ (a : Addr) (ns : List Str), xs = [.ref a] ∧ (SqL K H a (ns.map V.str) ∨ SqT K H a (ns.map V.str)) ∧ ns.length + 1 < scanBound ∧
    ∀ p c, H p = none → Q (.ref p) (upd H p (SetSO P w p (fun j => decide (j ∈ ns)) c))) := by
  subst hP hw hK
  intro pins s σ H xs us Q I r q
  obtain ⟨a, ns, rfl, hq, hb, q⟩ := q
  obtain ⟨u, rfl, rx⟩ := vals1 r
  cases rx
  have fin : ∀ (h' : Heap) (tk c : Nat), SetS X.prog X.w h' s.heap.objs.size (fun j => decide (j ∈ ns)) c → c ≤ ns.length → (∀ b o, s.heap.get? b = some o → h'.get? b = some o) → EP X pins σ Q (.ref s.heap.objs.size) { s with heap := h', toks := tk } := fun h' tk c R hc hk =>
    ⟨.ref s.heap.objs.size, upd H s.heap.objs.size (SetSO X.prog X.w s.heap.objs.size (fun j => decide (j ∈ ns)) c), I.laid (t' := tk) hk (Nat.le_refl _) (setSO_new R), rfl, q _ c (I.hok.fresh (Nat.le_refl _))⟩
  rcases hq with hq | hq
  · obtain ⟨its, rv, p, hz⟩ := I.list hq
    exact call_set_lstS ns (I.ok.hd hc) p.isList (by simpa using strsAre_of rv) hb fin
  · obtain ⟨its, rv, p, hz⟩ := I.tuple hq
    exact call_set_tupS ns (I.ok.hd hc) p (by simpa using strsAre_of rv) hb fin
theorem cr_sortedSetS (hc : X.calm = true := by rfl) (hP : X.prog = P := by rfl) (hw : X.w = w := by rfl) : CallR X (.builtin "sorted") (fun xs H Q => ∃ (a : Addr) (S : Str → Bool) (n : Nat) (ks : List Str), xs = [.ref a] ∧ H a = some (SetSO P w a S n) ∧ ks.length < 64 ∧ (∀ k, S k = true → k ∈ ks) ∧
    ∀ ys p, ys.Nodup → (∀ k, k ∈ ys ↔ S k = true) → sortedS ys = true → H p = none → Q (.ref p) (upd H p (.lst (ys.map V.str)))) := by
  subst hP hw
  intro pins s σ H xs us Q I r q
  obtain ⟨a, S, n, ks0, rfl, ha, h64, hks, q⟩ := q
  obtain ⟨u, rfl, rx⟩ := vals1 r
  cases rx
  obtain ⟨o, es, ep, t, ho, hex, hd, g, nd, hm, hb, hf, hn, hr, hl⟩ := (show SetS X.prog X.w s.heap a S n from (I.hok a _ ha).1)
  have hlen : es.size < 64 := by
    have h1 : (es.toList.map keyS).length ≤ ks0.length := nd_len nd fun k hk => hks k ((hm k).2 hk)
    rw [List.length_map, Array.length_toList] at h1
    omega
  refine Calls.call_function_entry kind_sorted plain_sorted entry_sorted (args_sorted1 _) ?_
  unfold Builtin.«sorted»
  refine wpAny_bind (m := checkCount "sorted" 1 1 _) (wpAny_pure ?_)
  refine wpAny_bind (collect_set (A := X.A.in1) (I.ok.hd hc) ⟨o, ho, hex.1, hd⟩ hf hb hr hl fun s1 vs k1 hz g1 o1 pm => ?_)
  have hvl : vs.length = es.size := by rw [pm.length_eq, List.length_map, Array.length_toList]
  have hS := strs_ofS vs fun v hv => by
    obtain ⟨e, he, q⟩ := List.mem_map.mp (pm.mem_iff.mp hv)
    obtain ⟨k, tk, h1, _⟩ := g e he
    exact ⟨k, tk, by rw [← q]; exact h1⟩
  have pk : (vs.map keyV).Perm (es.toList.map keyS) := by
    have q := pm.map keyV
    rw [List.map_map] at q
    exact q
  refine wpAny_bind (wpAny_newList ?_ (by rw [hvl, sizeLine_eq]; omega))
  have hoL : (s1.heap.push (seqObj "list" vs.toArray 0)).get? s1.heap.objs.size = some (seqObj "list" vs.toArray 0) := Heap.get?_push_size _ rfl
  refine wpAny_bind (wpAny_holding (wpAny_call_entry slot_list_sort ⟨_, hoL, rfl⟩ entry_list_sort
    (list_sort_treeK strKind_oneLt hoL hS.keysOf (fun v₁ v₂ rest e => keyKind_strs (by rw [← e]; exact hS)) (by rw [hvl]; exact hlen) fun st' hp hs => ⟨_, rfl, ?_⟩)
    (args_list_sort _)))
  obtain ⟨ys, q1, q2, q3⟩ := sorted_out_str hS hp hs
  obtain ⟨e', he'⟩ := sortedHeap_at (vs := vs) (out := (arrOf st').map (·.2)) hoL
  have hn1 : H s1.heap.objs.size = none := I.hok.fresh hz
  have kk : ∀ b o, s.heap.get? b = some o → (sortedHeap (s1.heap.push (seqObj "list" vs.toArray 0)) s1.heap.objs.size vs ((arrOf st').map (·.2))).get? b = some o := fun b o e => by
    have q := k1 b o e
    have hlt := Heap.lt_size q
    rw [sortedHeap_old (Nat.ne_of_lt hlt) (by rw [size_push']; exact Nat.lt_succ_of_lt hlt)]
    exact Heap.get?_push_of_some _ q
  have hln : (ys.map V.str).length ≤ sizeLine := by
    rw [List.length_map, q2.length_eq, List.length_map, hvl, sizeLine_eq]
    omega
  have J : Inv X pins σ (upd H s1.heap.objs.size (.lst (ys.map V.str))) { s with heap := sortedHeap (s1.heap.push (seqObj "list" vs.toArray 0)) s1.heap.objs.size vs ((arrOf st').map (·.2)), gens := s1.gens, drawn := s1.drawn, toks := s1.toks } :=
    I.call (ch := []) (Un.laid kk hz hn1) (I.hok.laid kk hz ⟨hln, ((arrOf st').map (·.2)).toList, e', vals_of_strs q1, by rw [Array.toArray_toList]; exact he'⟩) (by rw [g1]; exact I.bare) (fun _ z => nomatch z)
  have e : ({ s1 with heap := sortedHeap (s1.heap.push (seqObj "list" vs.toArray 0)) s1.heap.objs.size vs ((arrOf st').map (·.2)) } : Shared) = { s with heap := sortedHeap (s1.heap.push (seqObj "list" vs.toArray 0)) s1.heap.objs.size vs ((arrOf st').map (·.2)), gens := s1.gens, drawn := s1.drawn, toks := s1.toks } := by
    cases s1
    cases s
    cases o1
    rfl
  refine wpAny_pure ⟨_, rfl, ?_⟩
  show EP X pins σ Q (.ref s1.heap.objs.size) { s1 with heap := sortedHeap (s1.heap.push (seqObj "list" vs.toArray 0)) s1.heap.objs.size vs ((arrOf st').map (·.2)) }
  rw [e]
  have pp := q2.trans pk
  exact ⟨.ref s1.heap.objs.size, _, J, rfl, q ys _ (pp.nodup_iff.mpr nd) (fun k => by rw [pp.mem_iff, ← hm k]) q3 hn1⟩
end
end L2
set_option maxHeartbeats 4000000
namespace Lv
open PySem PySem.Spec PyProof.Rows L2
theorem contains_KI {M : Model} {A : Around} {E : Value → Shared → Prop} {s : Shared} {K : PySem.W.Frag} {x C f : Addr} {ox : Obj} {od : Option Obj} {v : Value} {Q : Bool → Shared → Prop} (X : K.In s.heap) (I : PySem.W.InstAt s.heap x ox C od) (hs : PySem.W.findIn K (.ref C) "__contains__" = some (some (.ref f))) (hf : PySem.W.isFn K (.ref f) = true)
    (h : wpAny M A (call (.ref f) [.ref x, v]) (fun r s' => wpAny M A (truthy r) Q E s') E s) : wpAny M A (contains (.ref x) v) Q E s := by
  unfold contains
  refine wpAny_holding (wpAny_bind (wpAny_bind (I.type.here ((PySem.W.looks_findIn X hs).here ?_))))
  rw [if_neg (by simp)]
  exact wpAny_bind (PySem.W.unlessNone_K X I hs hf h)
def tNotInO (C : Addr) (sp : Sp) (ty td : TE) : TE := fun σ H Q => ty σ H fun y H1 => td σ H1 fun x H2 => ∃ a dx fs, x = .ref a ∧ H2 a = some (.ins C dx fs) ∧ sp [.ref a, y] H2 (fun v H3 => ∃ b, v = .bl b ∧ Q (.bl (!b)) H3) E0
section
variable {X : Cx} {k : Nat} {C : Addr} {ps : List Str} {sp : Sp} {i o : Expr} {ty td : TE}
theorem pc_notinO (c : MethOk X.prog X.w X.K X.mg X.base k C "__contains__" ps sp) (hr : Room k X.A) (hi : PE X i ty) (ho : PE X o td) : PC X .NotIn i o (tNotInO C sp ty td) := by
  obtain ⟨f, fd, F, cl, hm, hb⟩ := c.ex
  refine ⟨fun pins s σ H Q I h => ?_⟩
  refine thn (hi.run pins s σ H _ I h) fun iv s1 ⟨y, H1, I1, ry, q1⟩ => thn (ho.run pins s1 σ H1 _ I1 q1) fun u s2 ⟨x, H2, I2, rx, a, dx, fs, ex, ha, hsp⟩ => ?_
  subst ex
  obtain rfl : u = Value.ref a := rx
  obtain ⟨mA, J, _⟩ := ins_get I2.hok ha
  obtain ⟨od, J, _⟩ := J.look
  show wpAny (model X.prog X.w) X.A (do return Value.bool (!(← contains (.ref a) iv))) _ _ _
  refine wpAny_bind (contains_KI I2.kIn J hm.at_ hm.fn ?_)
  have hl := F.len _ _ _ _ hsp
  have r2 : Vals [V.ref a, y] [Value.ref a, iv] := .cons rfl (.cons ry .nil)
  refine wpAny_call (codeAny_mono (F.run X.A X.stack s2 H2 ⟨[.ref a, iv], []⟩ [.ref a, iv] [.ref a, y] _ E0 hr I2.env0 (by
    have := hb s2 [.ref a, iv] I2.kIn (by simpa using hl)
    simpa using this) r2 hsp) fun r s' hq => ?_)
  cases r with
  | error e => exact (show False from hq).elim
  | ok fl =>
    cases fl with
    | ret w =>
      obtain ⟨z, H', I', rz, b, rfl, q⟩ := I2.after hq
      cases rz
      exact wpAny_truthy_bool (wpAny_pure ⟨.bl (!b), H', I', rfl, q⟩)
    | next => exact False.elim hq
    | brk => exact False.elim hq
    | cont => exact False.elim hq
end
end Lv
set_option maxHeartbeats 4000000
namespace Lv
open PySem PySem.Spec PyProof.Rows L2
theorem putK_app {κ : Type} [DecidableEq κ] {kvs : List (κ × V)} {k : κ} {v : V} (h : k ∉ kvs.map (·.1)) : putK kvs k v = kvs ++ [(k, v)] := by
  refine putK_new v ?_
  cases e : valV kvs k with
  | none => rfl
  | some x => exact absurd (valV_in e) h
theorem perm_map_inv {α β : Type} {g : α → β} : ∀ {p q : List β}, p.Perm q → ∀ L : List α, q = L.map g → ∃ L' : List α, L'.Perm L ∧ p = L'.map g := by
  intro p q h
  induction h with
  | nil =>
    intro L e
    cases L with
    | nil => exact ⟨[], .refl _, rfl⟩
    | cons _ _ => cases e
  | cons x h ih =>
    intro L e
    cases L with
    | nil => cases e
    | cons y L =>
      rw [List.map_cons] at e
      injection e with e1 e2
      obtain ⟨L', h1, h2⟩ := ih L e2
      exact ⟨y :: L', h1.cons y, by rw [List.map_cons, ← e1, h2]⟩
  | swap x y l =>
    intro L e
    match L, e with
    | a :: b :: L, e =>
      rw [List.map_cons, List.map_cons] at e
      injection e with e1 e
      injection e with e2 e3
      exact ⟨b :: a :: L, .swap a b L, by rw [List.map_cons, List.map_cons, ← e1, ← e2, ← e3]⟩
  | trans h1 h2 ih1 ih2 =>
    intro L e
    obtain ⟨L1, q1, q2⟩ := ih2 L e
    obtain ⟨L2, r1, r2⟩ := ih1 L1 q2
    exact ⟨L2, r1.trans q1, r2⟩
structure LRow where
  a : Addr
  acc : Str
  num : Int
  s : Say
def LRow.text (e : LRow) : Str := letterText e.acc e.num e.s
def LRow.ok (e : LRow) : Prop := nameOk e.acc = true ∧ e.num.natAbs.log2 < 1920 ∧ e.s.ok = true
def LRow.At (K : PySem.W.Frag) (H : Hp) (e : LRow) : Prop := LetterAt K H e.a e.acc e.num e.s ∧ e.ok
def rowDt (e : LRow) (i : Nat) : Dt := .tup [.str e.acc, .int e.num, .str e.text, .int i]
theorem LRow.keep {K : PySem.W.Frag} {H H' : Hp} {e : LRow} (k : ∀ b o, H b = some o → (∃ C dx fs, o = .ins C dx fs) → H' b = some o) (t : Tk H H') (h : LRow.At K H e) : LRow.At K H' e := by
  obtain ⟨⟨dx, sv, o, tv⟩, ok⟩ := h
  exact ⟨⟨dx, sv, k _ _ o ⟨_, _, _, rfl⟩, tv.keep t⟩, ok⟩
theorem LRow.same {K : PySem.W.Frag} {H H' : Hp} {e : LRow} (s : Same H H') (h : LRow.At K H e) : LRow.At K H' e := LRow.keep (fun b o z _ => s b o z) (tk_same s) h
section
variable {P : Program} {w : World} {K : PySem.W.Frag} {mg : Str → Option Value} {base : Heap}
def lDict (l : List LRow) : List (Key × V) := l.map fun e => ((Sum.inr e.text : Key), V.ref e.a)
def leT (a b : LRow × Nat) : Bool := PySem.W.dataLe false (fun x : LRow × Nat => (rowDt x.1 x.2).py) a b
def texF (l : List LRow) : List LRow := (l.zipIdx.mergeSort leT).map (·.1)
theorem sortD_rows {L : List (V × LRow × Nat)} {l : List LRow} (h : L.map (·.2) = l.zipIdx) : ∃ L' : List (V × LRow × Nat), L'.Perm L ∧ sortD (L.map fun x => (x.1, rowDt x.2.1 x.2.2)) = L'.map (fun x => (x.1, rowDt x.2.1 x.2.2)) ∧ L'.map (·.2.1) = texF l := by
  refine ⟨L.mergeSort fun a b => leT a.2 b.2, List.mergeSort_perm _ _, (List.map_mergeSort (r := fun a b : V × LRow × Nat => leT a.2 b.2) (s := PySem.W.dataLe false fun b : V × Dt => b.2.py) (f := fun x : V × LRow × Nat => (x.1, rowDt x.2.1 x.2.2)) fun _ _ _ _ => rfl).symm, ?_⟩
  have e : (L.mergeSort fun a b => leT a.2 b.2).map (·.2) = (L.map (·.2)).mergeSort leT := List.map_mergeSort (r := fun a b : V × LRow × Nat => leT a.2 b.2) (s := leT) (f := fun x : V × LRow × Nat => x.2) fun _ _ _ _ => rfl
  unfold texF
  rw [← h, ← e, List.map_map]
  rfl
def sp_texts_of (K : PySem.W.Frag) : Sp := sp1 fun v H Q => ∃ (a : Addr) (l : List LRow), v = .ref a ∧ H a = some (.tup (l.map fun e => .ref e.a)) ∧ (∀ e ∈ l, LRow.At K H e) ∧ (l.map LRow.text).Nodup ∧ l.length ≤ 1000 ∧
  ∀ H' D l', Same H H' → l'.Perm l → l' = texF l → H' D = some (.dK (lDict l')) → Q (.ref D) H'
abbrev N_texts_of : List Str := ["letters", "rows", "place", "letter", "row"]
theorem sc_texts_of : FnScope N_texts_of ["letters"] (defScope s_texts_of) := ⟨rfl, rfl, rfl, by decide +kernel, rfl, by decide +kernel, by decide +kernel⟩
theorem ok_texts_of (T : Txt K mg) : CallOk P w K mg base 3 "texts_of" ["letters"] [] (sp_texts_of K) := by
  refine call_ok T 41 T.g_texts_of sc_texts_of (fun vs H Q E h => ?_) (fun f cdv A outer s H vs Q E hr h => ?_) (fun _ _ _ _ _ _ us hl => match us, hl with | [_], _ => rfl)
  · obtain ⟨x0, rfl, _⟩ := h
    rfl
  · have nd := sc_texts_of.nd
    have hu := hu_of hr
    have hu64 := hu64_of hr
    have c_letter_text := ok_letter_text (P := P) (w := w) (base := base) T
    obtain ⟨x0, rfl, h⟩ := h
    refine ⟨_, (pss_cons (ps_set (i := 1) nd rfl (Or.inl rfl) (pe_lst pa_nil)) (pss_cons (ps_for PassesOwn.never rfl (pi_enumT (K := K) (by rfl) T.b_enumerate (pa_cons (pv 0) pa_nil)) (pg_tup rfl (pgs_cons (pg_name (i := 2) nd rfl (Or.inl rfl)) (pgs_cons (pg_name (i := 3) nd rfl (Or.inl rfl)) pgs_nil))) (pss_one (ps_expr (pe_bm PySem.F.plainAttrs_list PySem.F.slot_list_append PySem.F.type_list_append mt_append (pv 1) (pa_cons (pe_tup (pa_cons (fldK (K := K) (pv 3) rfl) (pa_cons (fldK (K := K) (pv 3) rfl) (pa_cons (pe_callO c_letter_text (hr.mono (by first | decide | omega)) (pa_cons (pv 3) pa_nil)) (pa_cons (pv 2) pa_nil))))) pa_nil))))) (pss_one (ps_ret (pe_dc (own := [("row", 4)]) (g := (gName 4)) (tt := tYes) rfl nd (pi_list (pe_callB (sortedDK (K := K) hu64) (by rfl) T.b_sorted boot_sorted (pa_cons (pv 1) pa_nil))) (blkOk_by (own := [("row", 4)]) (N := N_texts_of) (sc := defScope s_texts_of) (by decide +kernel)) (fun _ _ _ _ _ => (pg_name (i := 4) nd rfl (Or.inl rfl))) (fun _ _ _ _ _ => pts_nil) (fun _ _ _ _ _ => (pe_ix (ixT (K := K)) (pv 4) pe_int (fun _ _ => rfl))) (fun _ _ _ _ _ => (pe_ix (ixT (K := K)) (pv 0) (pe_ix (ixT (K := K)) (pv 4) pe_int (fun _ _ => rfl)) (fun _ _ => rfl)))))))), ?_⟩
    obtain ⟨a, l, rfl, e, hat, nz, hl, q⟩ := h
    have sz4 : (4 : Nat) ≤ sizeLine := by decide
    have sz1001 : (1001 : Nat) < sizeLine := by decide
    refine ⟨(by show (0 : Nat) ≤ sizeLine; decide), fun R hR => ?_⟩
    have s0 := same_new (o := .lst []) hR
    refine ⟨_, rfl, a, _, rfl, SqT.of (s0 _ _ e), for_it walk_enumT (fun i σ H2 => ∃ (v2 v3 : Option V) (L : List (V × LRow × Nat)), σ = [some (.ref a), some (.ref R), v2, v3, none] ∧ Same H H2 ∧ H2 R = some (.lst (L.map (·.1))) ∧ L.length = i ∧ ∀ j x, L[j]? = some x → l[j]? = some x.2.1 ∧ x.2.2 = j ∧ Tv H2 (rowDt x.2.1 j) x.1) ⟨_, _, [], rfl, s0, upd_same, rfl, fun j x z => by simp at z⟩ (fun i σ H2 _ ⟨_, _, _, _, s, _⟩ => SqT.of (s _ _ e)) ?_ ?_⟩
    · rintro i x σ H2 H3 hi ⟨v2, v3, L, rfl, s, eR, eL, hL⟩ ⟨T1, x1, x2, rfl, hT, rfl, hx1, hx2⟩
      obtain ⟨n, hn, rfl⟩ := getMap hx2
      cases hx1
      have hi2 : i < l.length := by simpa using hi
      have s1 := same_to (o := .tup [.int (i : Nat), .ref n.a]) s hT
      have eR1 : (upd H2 T1 (.tup [.int (i : Nat), .ref n.a])) R = some (.lst (L.map (·.1))) := by rw [upd_ne (ne_of_none eR hT)]; exact eR
      obtain ⟨⟨dx, sv, o, tv⟩, ok1, ok2, ok3⟩ := LRow.same s1 (hat n (List.mem_of_getElem? hn))
      refine ⟨T1, _, rfl, SqT.of upd_same, rfl, _, _, rfl, _, _, rfl, rfl, ?_⟩
      refine ⟨_, rfl, .inl ⟨rfl, _, SqL.of eR1⟩, _, rfl, _, _, _, _, _, rfl, o, T.cls_Letter, T.na_Letter_account, fl_Letter_account .., _, rfl, _, _, _, _, _, rfl, o, T.cls_Letter, T.na_Letter_number, fl_Letter_number .., _, rfl, _, rfl, n.a, n.acc, n.num, n.s, rfl, ⟨dx, sv, o, tv⟩, ok1, ok2, ok3, fun H4 s4 => ⟨_, rfl, sz4, fun t ht => ?_⟩⟩
      have s5 := s4.trans (same_new (o := .tup [.str n.acc, .int n.num, .str (letterText n.acc n.num n.s), .int (i : Nat)]) ht)
      have eR5 := s5 _ _ eR1
      refine ⟨R, _, _, rfl, rfl, eR5, by rw [List.length_map, eL]; omega, ?_⟩
      have kT : Tk H2 (upd (upd H4 t (.tup [.str n.acc, .int n.num, .str (letterText n.acc n.num n.s), .int (i : Nat)])) R (.lst (L.map (·.1) ++ [.ref t]))) := ((tk_new hT).trans (tk_same s5)).trans (tk_mut eR5 (by intro _ z; cases z))
      have tR : t ≠ R := fun z => by
        rw [z, s4 _ _ eR1] at ht
        cases ht
      refine ⟨_, _, L ++ [(.ref t, n, i)], rfl, same_upd (s1.trans s5) hR, by rw [upd_same, List.map_append]; rfl, by simp [eL], fun j x hx => ?_⟩
      rcases Nat.lt_or_ge j L.length with hj | hj
      · rw [List.getElem?_append_left hj] at hx
        obtain ⟨h1, h2, h3⟩ := hL j x hx
        exact ⟨h1, h2, h3.keep kT⟩
      · rw [List.getElem?_append_right hj] at hx
        obtain ⟨h0, ex⟩ : j - L.length = 0 ∧ x = (.ref t, n, i) := by
          cases h : j - L.length with
          | zero =>
            rw [h] at hx
            exact ⟨rfl, by simpa using hx.symm⟩
          | succ m =>
            rw [h] at hx
            simp at hx
        have ej : j = i := by omega
        subst ex ej
        refine ⟨hn, rfl, t, [.str n.acc, .int n.num, .str (letterText n.acc n.num n.s), .int (j : Nat)], rfl, by rw [upd_ne tR]; exact upd_same, ?_⟩
        exact ⟨rfl, rfl, rfl, rfl, trivial⟩
    · rintro σ H2 ⟨v2, v3, L, rfl, s, eR, eL, hL⟩
      have eL : L.length = l.length := by simpa using eL
      have hLl : L.map (·.2.1) = l := by
        refine List.ext_getElem? fun j => ?_
        rw [List.getElem?_map]
        cases hx : L[j]? with
        | none =>
          have := List.getElem?_eq_none_iff.mp hx
          rw [List.getElem?_eq_none (by omega)]
          rfl
        | some x =>
          rw [(hL j x hx).1]
          rfl
      refine ⟨_, rfl, R, L.map (fun x => (x.1, rowDt x.2.1 x.2.2)), rfl, ?_, ?_, ?_, ?_, ?_, fun S hS => ?_⟩
      · rw [List.map_map]
        exact SqL.of eR
      · intro b hb
        obtain ⟨x, hx, rfl⟩ := List.mem_map.mp hb
        obtain ⟨j, hj⟩ := List.mem_iff_getElem?.mp hx
        obtain ⟨h1, h2, h3⟩ := hL j x hj
        rw [h2]
        exact h3
      · intro d hd d' hd'
        rw [List.map_map] at hd hd'
        obtain ⟨x, _, rfl⟩ := List.mem_map.mp hd
        obtain ⟨y, _, rfl⟩ := List.mem_map.mp hd'
        rfl
      · refine .inl fun d hd => ?_
        rw [List.map_map] at hd
        obtain ⟨x, _, rfl⟩ := List.mem_map.mp hd
        exact ⟨_, _, rfl⟩
      · intro b hb
        obtain ⟨x, hx, rfl⟩ := List.mem_map.mp hb
        show (1 : Nat) ≤ 8
        decide
      have hzL : L.map (·.2) = l.zipIdx := by
        refine List.ext_getElem? fun j => ?_
        rw [List.getElem?_map, List.getElem?_zipIdx]
        cases hx : L[j]? with
        | none =>
          have := List.getElem?_eq_none_iff.mp hx
          rw [List.getElem?_eq_none (by omega)]
          rfl
        | some x =>
          obtain ⟨h1, h2, _⟩ := hL j x hx
          rw [h1]
          show some x.2 = some (x.2.1, 0 + j)
          rw [← h2, Nat.zero_add]
      obtain ⟨L', hp, eL', eT⟩ := sortD_rows hzL
      have eS : (sortD (L.map fun x => (x.1, rowDt x.2.1 x.2.2))).map Prod.fst = L'.map (·.1) := by
        rw [eL', List.map_map]
        rfl
      rw [eS]
      have hL2 : ∀ x ∈ L', l[x.2.2]? = some x.2.1 ∧ Tv H2 (rowDt x.2.1 x.2.2) x.1 := fun x hx => by
        obtain ⟨j, hj⟩ := List.mem_iff_getElem?.mp (hp.mem_iff.mp hx)
        obtain ⟨h1, h2, h3⟩ := hL j x hj
        rw [h2]
        exact ⟨h1, h3⟩
      have hpl : (L'.map (·.2.1)).Perm l := by
        have := hp.map (·.2.1)
        rw [hLl] at this
        exact this
      have nz2 : ((L'.map (·.2.1)).map LRow.text).Nodup := (hpl.map LRow.text).nodup_iff.mpr nz
      have ll : L'.length = l.length := by rw [hp.length_eq, eL]
      have sS := same_new (o := .lst (L'.map (·.1))) hS
      refine ⟨S, rfl, ⟨_, SqL.of upd_same⟩, fun D hD => dc_rel walk_list (fun i kvs _ => kvs = lDict ((L'.map (·.2.1)).take i)) hD (fun H3 s3 => SqL.of (s3 _ _ upd_same)) rfl ?_ ?_⟩
      · rintro i x kvs H3 H4 hi hl2 s3 eD r ⟨rfl, hx⟩
        obtain ⟨y, hy, rfl⟩ := getMap hx
        rw [List.length_map] at hi
        obtain ⟨h1, h3⟩ := hL2 y (List.mem_of_getElem? hy)
        obtain ⟨t, ys, et1, et, tt⟩ := h3.keep (tk_same (sS.trans s3))
        obtain ⟨x1, x2, x3, x4, rfl⟩ : ∃ x1 x2 x3 x4, ys = [x1, x2, x3, x4] := by
          match ys, tt with
          | [a, b, c, d], _ => exact ⟨a, b, c, d, rfl⟩
        obtain ⟨rfl, rfl, rfl, rfl, _⟩ := tt
        have ea := (s.trans (sS.trans s3)) _ _ e
        rw [et1]
        refine ⟨rfl, _, rfl, _, _, _, _, rfl, rfl, SqT.of et, atI_nat (j := 2) rfl, _, rfl, _, rfl, _, _, _, _, rfl, rfl, SqT.of et, atI_nat (j := 3) rfl, ⟨_, _, _, _, rfl, rfl, SqT.of ea, atI_nat (j := y.2.2) (by rw [List.getElem?_map, h1]; rfl), dc_put (k := Sum.inr y.2.1.text) hD (by omega) hl2 s3 eD ?_⟩⟩
        have hm : (L'.map (·.2.1))[i]? = some y.2.1 := by rw [List.getElem?_map, hy]; rfl
        rw [r, take_snoc hm, putK_app]
        · unfold lDict
          rw [List.map_append]
          rfl
        · intro hk
          unfold lDict at hk
          rw [List.map_map] at hk
          obtain ⟨z, hz, ez⟩ := List.mem_map.mp hk
          have ez : z.text = y.2.1.text := Sum.inr.inj ez
          have hd : y.2.1 ∈ (L'.map (·.2.1)).drop i := by
            obtain ⟨hi2, e2⟩ := List.getElem?_eq_some_iff.mp hm
            rw [← e2]
            exact List.mem_drop_iff_getElem.mpr ⟨0, by omega, by simp⟩
          rw [← List.take_append_drop i (L'.map (·.2.1)), List.map_append] at nz2
          exact (List.nodup_append.mp nz2).2.2 _ (List.mem_map.mpr ⟨z, hz, rfl⟩) _ (List.mem_map.mpr ⟨_, hd, rfl⟩) ez
      · intro kvs H3 hl2 s3 eD r
        rw [List.take_of_length_le (by simp)] at r
        subst r
        exact q _ D _ (s.trans (sS.trans s3)) hpl eT eD
end
end Lv
set_option maxHeartbeats 4000000
namespace Lv
open PySem PySem.Spec PyProof.Rows L2
def fSI (x : Str × Int) : Dt := .tup [.str x.1, .int x.2]
def fSS (x : Str × List Str) : Dt := .tup [.str x.1, .tup (x.2.map Dt.str)]
theorem keys_strs : ∀ l : List Str, Dt.keys (l.map Dt.str) = l.map NestedKey.text
  | [] => rfl
  | x :: l => by
    show NestedKey.text x :: Dt.keys (l.map Dt.str) = _
    rw [keys_strs l]
    rfl
theorem depth_strs : ∀ l : List Str, NestedKey.depthAll (l.map NestedKey.text) = 0
  | [] => rfl
  | x :: l => by
    show max 0 (NestedKey.depthAll (l.map NestedKey.text)) = 0
    rw [depth_strs l]
    rfl
theorem kSI : KeyF fSI where
  inj := fun ⟨a, n⟩ ⟨b, m⟩ h => by
    have h : NestedKey.tup [.text a, .num n] = NestedKey.tup [.text b, .num m] := h
    injection h with h
    injection h with h1 h
    injection h with h2 _
    injection h1 with h1
    injection h2 with h2
    rw [h1, h2]
  depth := fun ⟨a, n⟩ => by
    show (1 : Nat) ≤ 8
    decide
theorem text_inj : ∀ {l m : List Str}, l.map NestedKey.text = m.map NestedKey.text → l = m
  | [], [], _ => rfl
  | x :: l, y :: m, h => by
    rw [List.map_cons, List.map_cons] at h
    injection h with h1 h2
    injection h1 with h1
    rw [h1, text_inj h2]
  | [], _ :: _, h => by cases h
  | _ :: _, [], h => by cases h
theorem kSS : KeyF fSS where
  inj := fun ⟨a, n⟩ ⟨b, m⟩ h => by
    have h : NestedKey.tup [.text a, .tup (Dt.keys (n.map Dt.str))] = NestedKey.tup [.text b, .tup (Dt.keys (m.map Dt.str))] := h
    rw [keys_strs, keys_strs] at h
    injection h with h
    injection h with h1 h
    injection h with h2 _
    injection h1 with h1
    injection h2 with h2
    rw [h1, text_inj h2]
  depth := fun ⟨a, n⟩ => by
    show max 0 (max ((NestedKey.depthAll (Dt.keys (n.map Dt.str))) + 1) 0) + 1 ≤ 8
    rw [keys_strs, depth_strs]
    decide
theorem NPut.mono {P : Program} {w : World} {H : Hp} {a : Addr} {y v : V} {Q Q' : Hp → Prop} (h : NPut P w H a y v Q) (hq : ∀ H', Q H' → Q' H') : NPut P w H a y v Q' := by
  obtain ⟨α, i, f, l, x, b, F, n, e, t, len, q⟩ := h
  exact ⟨α, i, f, l, x, b, F, n, e, t, len, fun o ho nd => hq _ (q o ho nd)⟩
theorem NPut.of {P : Program} {w : World} {H : Hp} {a b : Addr} {v : V} {Q : Hp → Prop} {α : Type} [DecidableEq α] {f : α → Dt} {l : List (α × V)} {x : α} (F : KeyF f) (n : NdAt P w H a f l) (t : Tv H (f x) (.ref b)) (len : l.length < sizeLine)
    (q : ∀ o, Tk H (upd H a o) → But1 a H (upd H a o) → NdAt P w (upd H a o) a f (putK l x v) → Q (upd H a o)) : NPut P w H a (.ref b) v Q :=
  ⟨α, inferInstance, f, l, x, b, F, n, rfl, t, len, fun o ho nd => by
    obtain ⟨xs, e, _⟩ := n
    exact q o (tk_mut e (by intro _ z; cases z)) (but1_upd but_refl) nd⟩
theorem NGet.of {P : Program} {w : World} {H : Hp} {a b : Addr} {α : Type} [DecidableEq α] {f : α → Dt} {l : List (α × V)} {x : α} (F : KeyF f) (n : NdAt P w H a f l) (t : Tv H (f x) (.ref b)) : NGet P w H a (.ref b) (valV l x) :=
  ⟨α, inferInstance, f, l, x, b, F, n.rd, rfl, t, rfl⟩
section
variable {P : Program} {w : World} {K : PySem.W.Frag} {mg : Str → Option Value} {base : Heap}
def sp_splits_of (P : Program) (w : World) (K : PySem.W.Frag) : Sp := sp1 fun v H Q => ∃ (a : Addr) (l : List LRow), v = .ref a ∧ H a = some (.tup (l.map fun e => .ref e.a)) ∧ (∀ e ∈ l, LRow.At K H e) ∧ l.length ≤ 1000 ∧
  ∀ H' D kvs, Same H H' → NdAt P w H' D fSI kvs → Q (.ref D) H'
abbrev N_splits_of : List Str := ["letters", "met", "found", "letter", "key"]
theorem sc_splits_of : FnScope N_splits_of ["letters"] (defScope s_splits_of) := ⟨rfl, rfl, rfl, by decide +kernel, rfl, by decide +kernel, by decide +kernel⟩
theorem ok_splits_of (T : Txt K mg) : CallOk P w K mg base 1 "splits_of" ["letters"] [] (sp_splits_of P w K) := by
  refine call_ok T 42 T.g_splits_of sc_splits_of (fun vs H Q E h => ?_) (fun f cdv A outer s H vs Q E hr h => ?_) (fun _ _ _ _ _ _ us hl => match us, hl with | [_], _ => rfl)
  · obtain ⟨x0, rfl, _⟩ := h
    rfl
  · have nd := sc_splits_of.nd
    have hu := hu_of hr
    have hu64 := hu64_of hr
    obtain ⟨x0, rfl, h⟩ := h
    refine ⟨_, (pss_cons (ps_set (i := 1) nd rfl (Or.inl rfl) (pe_dnewN (P := P) (w := w))) (pss_cons (ps_set (i := 2) nd rfl (Or.inl rfl) (pe_dnewN (P := P) (w := w))) (pss_cons (ps_for PassesOwn.never rfl (pi_tup (pv 0)) (pg_name (i := 3) nd rfl (Or.inl rfl)) (pss_cons (ps_set (i := 4) nd rfl (Or.inl rfl) (pe_tup (pa_cons (fldK (K := K) (pv 3) rfl) (pa_cons (fldK (K := K) (pv 3) rfl) pa_nil)))) (pss_cons (ps_if (pt_cmp (pc_nin (P := P) (w := w) hu64 (pv 4) (pv 1))) (pss_one (ps_nput (P := P) (w := w) hu64 (pv 2) (pv 4) pe_bl rfl)) pss_nil) (pss_one (ps_nput (P := P) (w := w) hu64 (pv 1) (pv 4) pe_bl rfl))))) (pss_one (ps_ret (pv 2)))))), ?_⟩
    obtain ⟨a, l, rfl, e, hat, hl, q⟩ := h
    have sz2 : (2 : Nat) ≤ sizeLine := by decide
    have sz1001 : (1001 : Nat) < sizeLine := by decide
    refine fun M hM => ?_
    have s0 := same_new (o := .ext (NdRaw P w M [])) hM
    refine fun F hF => ?_
    have s1 := s0.trans (same_new (o := .ext (NdRaw P w F [])) hF)
    have nFM : F ≠ M := fun z => by
      rw [z, upd_same] at hF
      cases hF
    have hF0 : H F = none := by rw [upd_ne nFM] at hF; exact hF
    refine ⟨_, rfl, a, rfl, ⟨_, SqT.of (s1 _ _ e)⟩, for_it walk_tup (fun i σ H2 => ∃ (v3 v4 : Option V) (ms fs : List ((Str × Int) × V)), σ = [some (.ref a), some (.ref M), some (.ref F), v3, v4] ∧ Same H H2 ∧ NdAt P w H2 M fSI ms ∧ NdAt P w H2 F fSI fs ∧ ms.length ≤ i ∧ fs.length ≤ i) ⟨_, _, [], [], rfl, s1, ⟨[], by rw [upd_ne (Ne.symm nFM)]; exact upd_same, .nil⟩, ⟨[], upd_same, .nil⟩, Nat.le_refl _, Nat.le_refl _⟩ (fun i σ H2 _ ⟨_, _, _, _, _, s, _⟩ => SqT.of (s _ _ e)) ?_ ?_⟩
    · rintro i x σ H2 H3 hi ⟨v3, v4, ms, fs, rfl, s, nM, nF, lM, lF⟩ ⟨rfl, hx⟩
      obtain ⟨n, hn, rfl⟩ := getMap hx
      rw [List.length_map] at hi
      obtain ⟨⟨dx, sv, o, tv⟩, ok1, ok2, ok3⟩ := LRow.same s (hat n (List.mem_of_getElem? hn))
      refine ⟨_, rfl, _, _, _, _, _, rfl, o, T.cls_Letter, T.na_Letter_account, fl_Letter_account .., _, rfl, _, _, _, _, _, rfl, o, T.cls_Letter, T.na_Letter_number, fl_Letter_number .., sz2, fun t ht => ?_⟩
      have s4 := same_new (o := .tup [.str n.acc, .int n.num]) ht
      have sA := s.trans s4
      have nM4 := nM.same s4
      have nF4 := nF.same s4
      have tk4 : Tv (upd H3 t (.tup [.str n.acc, .int n.num])) (fSI (n.acc, n.num)) (.ref t) := ⟨t, _, rfl, upd_same, rfl, rfl, trivial⟩
      have fin : ∀ (H5 : Hp) (fs' : List ((Str × Int) × V)), Same H H5 → NdAt P w H5 M fSI ms → NdAt P w H5 F fSI fs' → fs'.length ≤ i + 1 → Tv H5 (fSI (n.acc, n.num)) (.ref t) → NPut P w H5 M (.ref t) (.bl true) fun H6 => ∃ ms fs, Same H H6 ∧ NdAt P w H6 M fSI ms ∧ NdAt P w H6 F fSI fs ∧ ms.length ≤ i + 1 ∧ fs.length ≤ i + 1 :=
        fun H5 fs' s5 n5 f5 l5 t5 => NPut.of kSI n5 t5 (by omega) fun o k b nd => ⟨_, fs', same_upd s5 hM, nd, f5.but b nFM k, Nat.le_trans (length_putK _ _ _) (by omega), l5⟩
      refine ⟨_, rfl, _, rfl, M, _, rfl, NGet.of kSI nM4 tk4, _, rfl, iteB (fun hc => ?_) (fun hc => ?_)⟩
      · refine ⟨_, rfl, _, rfl, F, rfl, NPut.of kSI nF4 tk4 (by omega) fun o k b nd => ?_⟩
        refine ⟨_, rfl, _, rfl, M, rfl, (fin _ _ (same_upd sA hF0) (nM4.but b (Ne.symm nFM) k) nd (Nat.le_trans (length_putK _ _ _) (by omega)) (tk4.keep k)).mono ?_⟩
        rintro H6 ⟨ms', fs', h1, h2, h3, h4, h5⟩
        exact ⟨_, _, ms', fs', rfl, h1, h2, h3, h4, h5⟩
      · refine ⟨_, rfl, _, rfl, M, rfl, (fin _ _ sA nM4 nF4 (by omega) tk4).mono ?_⟩
        rintro H6 ⟨ms', fs', h1, h2, h3, h4, h5⟩
        exact ⟨_, _, ms', fs', rfl, h1, h2, h3, h4, h5⟩
    · rintro σ H2 ⟨v3, v4, ms, fs, rfl, s, nM, nF, lM, lF⟩
      exact ⟨_, rfl, q _ _ _ s nF⟩
end
end Lv
set_option maxHeartbeats 4000000
namespace Lv
open PySem PySem.Spec PyProof.Rows L2
theorem mem_putK {κ : Type} [DecidableEq κ] {l : List (κ × V)} {k : κ} {v : V} {p : κ × V} (h : p ∈ putK l k v) : p ∈ l ∨ (p.1 = k ∧ p.2 = v) := by
  unfold putK at h
  split at h
  · obtain ⟨y, hy, e⟩ := List.mem_map.mp h
    by_cases hk : y.1 = k
    · rw [if_pos hk] at e
      exact .inr ⟨by rw [← e]; exact hk, by rw [← e]⟩
    · rw [if_neg hk] at e
      exact .inl (e ▸ hy)
  · rcases List.mem_append.mp h with h | h
    · exact .inl h
    · have h := List.mem_singleton.mp h
      exact .inr ⟨by rw [h], by rw [h]⟩
theorem valV_mem {κ : Type} [DecidableEq κ] {l : List (κ × V)} {k : κ} {v : V} (h : valV l k = some v) : (k, v) ∈ l := by
  unfold valV at h
  obtain ⟨p, hp, e⟩ := Option.map_eq_some_iff.mp h
  have h1 := List.find?_some hp
  have h2 := List.mem_of_find?_eq_some hp
  have h1 : p.1 = k := of_decide_eq_true h1
  rw [← h1, ← e]
  exact h2
def Cnt (l : List LRow) (kvs : List ((Str × List Str) × V)) : Prop := ∀ p ∈ kvs, ∃ e ∈ l, p.2 = .ref e.a ∧ p.1 = (e.acc, e.s.subj)
section
variable {P : Program} {w : World} {K : PySem.W.Frag} {mg : Str → Option Value} {base : Heap}
def sp_counted (P : Program) (w : World) (K : PySem.W.Frag) : Sp := sp2 fun v x H Q => ∃ (a : Addr) (l : List LRow) (S : Addr) (sp : List ((Str × Int) × V)), v = .ref a ∧ H a = some (.tup (l.map fun e => .ref e.a)) ∧ (∀ e ∈ l, LRow.At K H e) ∧ l.length ≤ 1000 ∧ x = .ref S ∧ NdAt P w H S fSI sp ∧
  ∀ H' D kvs, Same H H' → NdAt P w H' D fSS kvs → kvs.length ≤ l.length → Cnt l kvs → Q (.ref D) H'
abbrev N_counted : List Str := ["letters", "split", "found", "letter", "key"]
theorem sc_counted : FnScope N_counted ["letters", "split"] (defScope s_counted) := ⟨rfl, rfl, rfl, by decide +kernel, rfl, by decide +kernel, by decide +kernel⟩
theorem ok_counted (T : Txt K mg) : CallOk P w K mg base 9 "counted" ["letters", "split"] [] (sp_counted P w K) := by
  refine call_ok T 43 T.g_counted sc_counted (fun vs H Q E h => ?_) (fun f cdv A outer s H vs Q E hr h => ?_) (fun _ _ _ _ _ _ us hl => match us, hl with | [_, _], _ => rfl)
  · obtain ⟨x0, x1, rfl, _⟩ := h
    rfl
  · have nd := sc_counted.nd
    have hu := hu_of hr
    have hu64 := hu64_of hr
    have c_subject_of := ok_subject_of (P := P) (w := w) (base := base) T
    obtain ⟨x0, x1, rfl, h⟩ := h
    refine ⟨_, (pss_cons (ps_set (i := 2) nd rfl (Or.inl rfl) (pe_dnewN (P := P) (w := w))) (pss_cons (ps_for PassesOwn.never rfl (pi_tup (pv 0)) (pg_name (i := 3) nd rfl (Or.inl rfl)) (pss_one (ps_if (pt_cmp (pc_nnotin (P := P) (w := w) hu64 (pe_tup (pa_cons (fldK (K := K) (pv 3) rfl) (pa_cons (fldK (K := K) (pv 3) rfl) pa_nil))) (pv 1))) (pss_cons (ps_set (i := 4) nd rfl (Or.inl rfl) (pe_tup (pa_cons (fldK (K := K) (pv 3) rfl) (pa_cons (pe_callO c_subject_of (hr.mono (by first | decide | omega)) (pa_cons (fldK (K := K) (pv 3) rfl) pa_nil)) pa_nil)))) (pss_one (ps_if (PW.pt (pw_or (pt_cmp (pc_nnotin (P := P) (w := w) hu64 (pv 4) (pv 2))) (pw_or1 (pt_cmpR op_lt (fldK (K := K) (pe_nget (P := P) (w := w) hu64 (pv 2) (pv 4) (fun _ _ => rfl)) rfl) (fldK (K := K) (pv 3) rfl) (nomark _))))) (pss_one (ps_nput (P := P) (w := w) hu64 (pv 2) (pv 4) (pv 3) rfl)) pss_nil))) pss_nil))) (pss_one (ps_ret (pv 2))))), ?_⟩
    obtain ⟨a, l, S, sp, rfl, e, hat, hl, rfl, hS, q⟩ := h
    have sz2 : (2 : Nat) ≤ sizeLine := by decide
    have sz1001 : (1001 : Nat) < sizeLine := by decide
    refine fun F hF => ?_
    have s1 := same_new (o := .ext (NdRaw P w F [])) hF
    refine ⟨_, rfl, a, rfl, ⟨_, SqT.of (s1 _ _ e)⟩, for_it walk_tup (fun i σ H2 => ∃ (v3 v4 : Option V) (fs : List ((Str × List Str) × V)), σ = [some (.ref a), some (.ref S), some (.ref F), v3, v4] ∧ Same H H2 ∧ NdAt P w H2 F fSS fs ∧ fs.length ≤ i ∧ Cnt l fs) ⟨_, _, [], rfl, s1, ⟨[], upd_same, .nil⟩, Nat.le_refl _, fun p hp => by cases hp⟩ (fun i σ H2 _ ⟨_, _, _, _, s, _⟩ => SqT.of (s _ _ e)) ?_ ?_⟩
    · rintro i x σ H2 H3 hi ⟨v3, v4, fs, rfl, s, nF, lF, hc⟩ ⟨rfl, hx⟩
      obtain ⟨n, hn, rfl⟩ := getMap hx
      have hnl := List.mem_of_getElem? hn
      rw [List.length_map] at hi
      obtain ⟨⟨dx, sv, o, tv⟩, ok1, ok2, ok3⟩ := LRow.same s (hat n hnl)
      refine ⟨_, rfl, _, _, _, _, _, rfl, o, T.cls_Letter, T.na_Letter_account, fl_Letter_account .., _, rfl, _, _, _, _, _, rfl, o, T.cls_Letter, T.na_Letter_number, fl_Letter_number .., sz2, fun t ht => ?_⟩
      have s4 := same_new (o := .tup [.str n.acc, .int n.num]) ht
      have tk4 : Tv (upd H3 t (.tup [.str n.acc, .int n.num])) (fSI (n.acc, n.num)) (.ref t) := ⟨t, _, rfl, upd_same, rfl, rfl, trivial⟩
      have s4' := s.trans s4
      refine ⟨_, rfl, S, _, rfl, NGet.of kSI (hS.same s4') tk4, _, rfl, iteB (fun hb => ?_) (fun hb => ?_)⟩
      · have o4 := s4 _ _ o
        have tv4 := tv.keep (tk_same s4)
        refine ⟨_, rfl, _, _, _, _, _, rfl, o4, T.cls_Letter, T.na_Letter_account, fl_Letter_account .., _, rfl, _, _, _, _, _, rfl, o4, T.cls_Letter, T.na_Letter_saying, fl_Letter_saying .., _, rfl, n.s, tv4, ok3, fun H5 p s5 ep => ⟨(by show 2 ≤ sizeLine; decide), fun u hu5 => ?_⟩⟩
        have s6 := s5.trans (same_new (o := .tup [.str n.acc, .ref p]) hu5)
        have sB := s4'.trans s6
        have o6 := s6 _ _ o4
        have tk6 : Tv (upd H5 u (.tup [.str n.acc, .ref p])) (fSS (n.acc, n.s.subj)) (.ref u) := ⟨u, _, rfl, upd_same, rfl, ⟨p, _, rfl, (same_new hu5) _ _ ep, TvAll.strs.mpr rfl⟩, trivial⟩
        have nF6 := nF.same (s4.trans s6)
        have put : NPut P w (upd H5 u (.tup [.str n.acc, .ref p])) F (.ref u) (.ref n.a) fun H6 => ∃ (v3 v4 : Option V) (fs : List ((Str × List Str) × V)), [some (.ref a), some (.ref S), some (.ref F), some (.ref n.a), some (.ref u)] = [some (.ref a), some (.ref S), some (.ref F), v3, v4] ∧ Same H H6 ∧ NdAt P w H6 F fSS fs ∧ fs.length ≤ i + 1 ∧ Cnt l fs :=
          NPut.of kSS nF6 tk6 (by omega) fun o k b nd => ⟨_, _, _, rfl, same_upd sB hF, nd, Nat.le_trans (length_putK _ _ _) (by omega), fun p hp => by
            rcases mem_putK hp with hp | ⟨h1, h2⟩
            · exact hc p hp
            · exact ⟨n, hnl, h2, h1⟩⟩
        have skip : ∃ (v3 v4 : Option V) (fs : List ((Str × List Str) × V)), [some (.ref a), some (.ref S), some (.ref F), some (.ref n.a), some (.ref u)] = [some (.ref a), some (.ref S), some (.ref F), v3, v4] ∧ Same H (upd H5 u (.tup [.str n.acc, .ref p])) ∧ NdAt P w (upd H5 u (.tup [.str n.acc, .ref p])) F fSS fs ∧ fs.length ≤ i + 1 ∧ Cnt l fs := ⟨_, _, fs, rfl, sB, nF6, by omega, hc⟩
        refine ⟨_, rfl, _, rfl, F, _, rfl, NGet.of kSS nF6 tk6, _, rfl, ?_⟩
        cases hv : valV fs (n.acc, n.s.subj) with
        | none => exact iteT ⟨_, rfl, _, rfl, _, rfl, F, rfl, put⟩
        | some v =>
          obtain ⟨g, hg, eg, _⟩ := hc _ (valV_mem hv)
          have eg : v = .ref g.a := eg
          subst eg
          obtain ⟨⟨dg, svg, og, tvg⟩, _⟩ := LRow.same sB (hat g hg)
          refine iteF ⟨_, rfl, _, rfl, F, _, rfl, hv ▸ NGet.of kSS nF6 tk6, _, _, _, _, _, rfl, og, T.cls_Letter, T.na_Letter_number, fl_Letter_number .., _, rfl, _, _, _, _, _, rfl, o6, T.cls_Letter, T.na_Letter_number, fl_Letter_number .., _, _, rfl, rfl, _, rfl, iteB (fun _ => ⟨_, rfl, _, rfl, _, rfl, F, rfl, put⟩) (fun _ => skip)⟩
      · exact ⟨_, _, fs, rfl, s4', nF.same s4, by omega, hc⟩
    · rintro σ H2 ⟨v3, v4, fs, rfl, s, nF, lF, hc⟩
      rw [List.length_map] at lF
      exact ⟨_, rfl, q _ _ _ s nF lF hc⟩
end
end Lv
set_option maxHeartbeats 4000000
namespace Lv
open PySem PySem.Spec PyProof.Rows L2
def RowD (isV : Bool) (d : Dt) : Prop := ∃ acc n : Str, if isV = true then ∃ k : Int, d = .tup [.str acc, .str n, .int k] else ∃ b : Bool, d = .tup [.str acc, .str n, .bl b]
def wordOf (isV : Bool) : Str := if isV = true then "vouch" else "back"
theorem ne_words : ¬ ("circle" : Str) = "vouch" ∧ ¬ ("back" : Str) = "vouch" ∧ ¬ ("block" : Str) = "vouch" ∧ ¬ ("post" : Str) = "vouch" ∧ ¬ ("speak" : Str) = "vouch" ∧ ¬ ("circle" : Str) = "back" ∧ ¬ ("vouch" : Str) = "back" ∧ ¬ ("block" : Str) = "back" ∧ ¬ ("post" : Str) = "back" ∧ ¬ ("speak" : Str) = "back" := by decide +kernel
theorem subj_word (s : Say) (isV : Bool) : ∃ h r, s.subj = h :: r ∧ (h = wordOf isV → ∃ (n : Str) (d : Dt), s.rest = [.str n, d] ∧ ∀ acc, RowD isV (.tup [.str acc, .str n, d])) := by
  obtain ⟨n1, n2, n3, n4, n5, n6, n7, n8, n9, n10⟩ := ne_words
  cases isV with
  | true =>
    cases s with
    | vouch n k => exact ⟨_, _, rfl, fun _ => ⟨n, .int k, rfl, fun acc => ⟨acc, n, k, rfl⟩⟩⟩
    | circle n k => exact ⟨_, _, rfl, fun z => absurd z n1⟩
    | back n k => exact ⟨_, _, rfl, fun z => absurd z n2⟩
    | block n k => exact ⟨_, _, rfl, fun z => absurd z n3⟩
    | take n => exact ⟨_, _, rfl, fun z => absurd z n4⟩
    | post n t b => exact ⟨_, _, rfl, fun z => absurd z n4⟩
    | speak a b c => exact ⟨_, _, rfl, fun z => absurd z n5⟩
  | false =>
    cases s with
    | back n k => exact ⟨_, _, rfl, fun _ => ⟨n, .bl k, rfl, fun acc => ⟨acc, n, k, rfl⟩⟩⟩
    | circle n k => exact ⟨_, _, rfl, fun z => absurd z n6⟩
    | vouch n k => exact ⟨_, _, rfl, fun z => absurd z n7⟩
    | block n k => exact ⟨_, _, rfl, fun z => absurd z n8⟩
    | take n => exact ⟨_, _, rfl, fun z => absurd z n9⟩
    | post n t b => exact ⟨_, _, rfl, fun z => absurd z n9⟩
    | speak a b c => exact ⟨_, _, rfl, fun z => absurd z n10⟩
section
variable {P : Program} {w : World} {K : PySem.W.Frag} {mg : Str → Option Value} {base : Heap}
def sp_stc (P : Program) (w : World) (K : PySem.W.Frag) : Sp := sp2 fun v x H Q => ∃ (F : Addr) (l : List LRow) (kvs : List ((Str × List Str) × V)) (isV : Bool), v = .ref F ∧ x = .str (wordOf isV) ∧ NdAt P w H F fSS kvs ∧ kvs.length ≤ 1000 ∧ Cnt l kvs ∧ (∀ e ∈ l, LRow.At K H e) ∧
  ∀ H' D (bs : List (V × Dt)), Same H H' → H' D = some (.lst (bs.map Prod.fst)) → bs.length ≤ 1000 → (∀ b ∈ bs, RowD isV b.2 ∧ Tv H' b.2 b.1) → Q (.ref D) H'
abbrev N_sayings_that_count : List Str := ["counts", "word", "found", "account", "subject", "saying"]
theorem sc_sayings_that_count : FnScope N_sayings_that_count ["counts", "word"] (defScope s_sayings_that_count) := ⟨rfl, rfl, rfl, by decide +kernel, rfl, by decide +kernel, by decide +kernel⟩
theorem ok_sayings_that_count (T : Txt K mg) : CallOk P w K mg base 1 "sayings_that_count" ["counts", "word"] [] (sp_stc P w K) := by
  refine call_ok T 44 T.g_sayings_that_count sc_sayings_that_count (fun vs H Q E h => ?_) (fun f cdv A outer s H vs Q E hr h => ?_) (fun _ _ _ _ _ _ us hl => match us, hl with | [_, _], _ => rfl)
  · obtain ⟨x0, x1, rfl, _⟩ := h
    rfl
  · have nd := sc_sayings_that_count.nd
    have hu := hu_of hr
    have hu64 := hu64_of hr
    obtain ⟨x0, x1, rfl, h⟩ := h
    refine ⟨_, (pss_cons (ps_set (i := 2) nd rfl (Or.inl rfl) (pe_lst pa_nil)) (pss_cons (ps_lock (ps_for PassesOwn.never rfl (pi_keysN (P := P) (w := w) (pv 0)) (pg_tup rfl (pgs_cons (pg_name (i := 3) nd rfl (Or.inl rfl)) (pgs_cons (pg_name (i := 4) nd rfl (Or.inl rfl)) pgs_nil))) (pss_one (ps_if (pt_cmpR op_eq (pe_ix (ixT (K := K)) (pv 4) pe_int (fun _ _ => rfl)) (pv 1) (nomark _)) (pss_cons (ps_set (i := 5) nd rfl (Or.inl rfl) (fldK (K := K) (pe_nget (P := P) (w := w) hu64 (pv 0) (pe_tup (pa_cons (pv 3) (pa_cons (pv 4) pa_nil))) (fun _ _ => rfl)) rfl)) (pss_one (ps_expr (pe_bm PySem.F.plainAttrs_list PySem.F.slot_list_append PySem.F.type_list_append mt_append (pv 2) (pa_cons (pe_tup (pa_cons (pv 3) (pa_cons (pe_ix (ixT (K := K)) (pv 5) pe_int (fun _ _ => rfl)) (pa_cons (pe_ix (ixT (K := K)) (pv 5) pe_int (fun _ _ => rfl)) pa_nil)))) pa_nil))))) pss_nil)))) (pss_one (ps_ret (pe_callB (sortedDK (K := K) hu64) (by rfl) T.b_sorted boot_sorted (pa_cons (pv 2) pa_nil)))))), ?_⟩
    obtain ⟨F, l, kvs, isV, rfl, rfl, hF, hl, hc, hat, q⟩ := h
    have sz3 : (3 : Nat) ≤ sizeLine := by decide
    have sz2 : (2 : Nat) ≤ sizeLine := by decide
    have sz1001 : (1001 : Nat) < sizeLine := by decide
    obtain ⟨xs, eF, pr⟩ := hF
    have hx1 : kvs.length = xs.length := Paired.length pr
    refine ⟨(by show (0 : Nat) ≤ sizeLine; decide), fun R hR => ?_⟩
    have nRF : R ≠ F := fun z => by
      rw [z, eF] at hR
      cases hR
    have eF1 : (upd H R (.lst [])) F = some (.ext (NdRaw P w F xs)) := by rw [upd_ne (Ne.symm nRF)]; exact eF
    refine ⟨F, _, eF1, trivial, fun od => ?_⟩
    have h0R : (upd H F (.frz od (.ext (NdRaw P w F xs)))) R = none := by rw [upd_ne nRF]; exact hR
    have sA : Same (upd H F (.frz od (.ext (NdRaw P w F xs)))) (upd (upd H R (.lst [])) F (.frz od (.ext (NdRaw P w F xs)))) := fun b o e => by
      by_cases hb : b = F
      · subst hb
        rw [upd_same] at e ⊢
        exact e
      · rw [upd_ne hb] at e ⊢
        rw [upd_ne (ne_of_none e hR)]
        exact e
    have kI : ∀ {H2 : Hp}, Same (upd H F (.frz od (.ext (NdRaw P w F xs)))) H2 → ∀ b o, H b = some o → b ≠ F → H2 b = some o := fun s b o e n => s b o (by rw [upd_ne n]; exact e)
    have kT : ∀ {H2 : Hp}, Same (upd H F (.frz od (.ext (NdRaw P w F xs)))) H2 → Tk H H2 := fun s b ys e => kI s b _ e fun z => by
      rw [z, eF] at e
      cases e
    refine ⟨_, rfl, F, od, xs, rfl, upd_same, for_it walk_keysN (fun i σ H2 => ∃ (v3 v4 v5 : Option V) (bs : List (V × Dt)), σ = [some (.ref F), some (.str (wordOf isV)), some (.ref R), v3, v4, v5] ∧ Same (upd H F (.frz od (.ext (NdRaw P w F xs)))) H2 ∧ H2 R = some (.lst (bs.map Prod.fst)) ∧ bs.length ≤ i ∧ ∀ b ∈ bs, RowD isV b.2 ∧ Tv H2 b.2 b.1) ⟨_, _, _, [], rfl, sA, by rw [upd_ne nRF]; exact upd_same, Nat.le_refl _, fun b hb => by cases hb⟩ (fun i σ H2 _ ⟨_, _, _, _, _, s, _⟩ => s _ _ upd_same) ?_ ?_⟩
    · rintro i x σ H2 H3 hi ⟨v3, v4, v5, bs, rfl, s, eR, lb, hb⟩ ⟨rfl, en, hen, rfl⟩
      obtain ⟨p, hp, e1, e2, e3⟩ := paired_getR pr hen
      obtain ⟨g, hg, eg, ek⟩ := hc p (List.mem_of_getElem? hp)
      obtain ⟨t, ys, et1, et, tt⟩ := e2.keep (kT s)
      cases et1
      obtain ⟨y1, y2, rfl⟩ : ∃ y1 y2, ys = [y1, y2] := by
        match ys, tt with
        | [a, b], _ => exact ⟨a, b, rfl⟩
      obtain ⟨rfl, ⟨u, zs, rfl, eu, tu⟩, _⟩ := tt
      have ez : zs = p.1.2.map V.str := TvAll.strs.mp tu
      subst ez
      obtain ⟨key, pv⟩ := p
      obtain rfl : key = (g.acc, g.s.subj) := ek
      obtain ⟨v, hv⟩ : ∃ v, valV kvs (g.acc, g.s.subj) = some v := by
        cases hv : valV kvs (g.acc, g.s.subj) with
        | some v => exact ⟨v, rfl⟩
        | none => exact absurd (List.mem_map.mpr ⟨_, List.mem_of_getElem? hp, rfl⟩) (valV_not hv)
      obtain ⟨g2, hg2, eg2, ek2⟩ := hc _ (valV_mem hv)
      have eg2 : v = .ref g2.a := eg2
      subst eg2
      have es : g.s.subj = g2.s.subj := (Prod.mk.inj ek2).2
      obtain ⟨h, r, eh, hw⟩ := subj_word g2.s isV
      have eu0 : (g.s.subj.map V.str)[0]? = some (.str h) := by rw [es, eh]; rfl
      refine ⟨_, _, rfl, SqT.of et, rfl, _, _, rfl, _, _, rfl, rfl, ?_⟩
      refine ⟨_, rfl, ⟨_, _, _, _, rfl, rfl, SqT.of eu, atI_nat (j := 0) eu0, _, rfl, rfl, _, rfl, iteB (fun hb1 => ?_) (fun hb1 => ?_)⟩⟩
      · have hb1 : h = wordOf isV := by simpa using hb1
        obtain ⟨n, d, er, hd⟩ := hw hb1
        obtain ⟨⟨dg, svg, og, tvg⟩, _⟩ := LRow.keep (fun b o z y => kI s b o z fun w => by
          obtain ⟨_, _, _, rfl⟩ := y
          rw [w, eF] at z
          cases z) (kT s) (hat g2 hg2)
        refine ⟨_, rfl, _, rfl, _, rfl, sz2, fun t ht => ?_⟩
        have s4 := same_new (o := .tup [.str g.acc, .ref u]) ht
        have sB := s.trans s4
        have og4 := s4 _ _ og
        have eu4 := s4 _ _ eu
        refine ⟨F, .ref g2.a, rfl, ⟨_, inferInstance, fSS, kvs, (g.acc, g.s.subj), t, kSS, ⟨xs, .inr ⟨od, sB _ _ upd_same⟩, NE.keeps (kT sB) pr⟩, rfl, ⟨t, _, rfl, upd_same, rfl, ⟨u, _, rfl, eu4, TvAll.strs.mpr rfl⟩, trivial⟩, hv.symm⟩, _, _, _, _, _, rfl, og4, T.cls_Letter, T.na_Letter_saying, fl_Letter_saying .., ?_⟩
        obtain ⟨b, ys, rfl, eb, ty⟩ := Say.at_ (tvg.keep (tk_same s4))
        rw [er] at ty
        obtain ⟨y, rfl, td⟩ : ∃ y, ys = [.str n, y] ∧ Tv (upd H3 t (.tup [.str g.acc, .ref u])) d y := by
          match ys, ty with
          | [a, y], ty =>
            obtain ⟨rfl, td, _⟩ := ty
            exact ⟨y, rfl, td⟩
        have eR4 := s4 _ _ eR
        refine ⟨_, rfl, .inl ⟨rfl, _, SqL.of eR4⟩, _, rfl, _, rfl, _, _, _, _, rfl, rfl, SqT.of eb, atI_nat (j := 1) rfl, _, rfl, _, _, _, _, rfl, rfl, SqT.of eb, atI_nat (j := 2) rfl, sz3, fun u2 hu2 => ?_⟩
        have s5 := same_new (o := .tup [.str g.acc, .str n, y]) hu2
        have eR5 := s5 _ _ eR4
        have k5 : Tk H3 (upd (upd (upd H3 t (.tup [.str g.acc, .ref u])) u2 (.tup [.str g.acc, .str n, y])) R (.lst (bs.map Prod.fst ++ [.ref u2]))) := ((tk_same s4).trans (tk_same s5)).trans (tk_mut eR5 (by intro _ z; cases z))
        have k6 : Tk (upd H3 t (.tup [.str g.acc, .ref u])) (upd (upd (upd H3 t (.tup [.str g.acc, .ref u])) u2 (.tup [.str g.acc, .str n, y])) R (.lst (bs.map Prod.fst ++ [.ref u2]))) := (tk_same s5).trans (tk_mut eR5 (by intro _ z; cases z))
        have nu : u2 ≠ R := fun z => by
          rw [z, eR4] at hu2
          cases hu2
        refine ⟨R, _, _, rfl, rfl, eR5, by rw [List.length_map]; omega, _, _, _, bs ++ [(.ref u2, .tup [.str g.acc, .str n, d])], rfl, same_upd (sB.trans s5) h0R, by rw [upd_same, List.map_append]; rfl, by simp; omega, fun b hbb => ?_⟩
        rcases List.mem_append.mp hbb with hbb | hbb
        · exact ⟨(hb b hbb).1, (hb b hbb).2.keep k5⟩
        · obtain rfl := List.mem_singleton.mp hbb
          exact ⟨hd _, u2, [.str g.acc, .str n, y], rfl, by rw [upd_ne nu]; exact upd_same, rfl, rfl, td.keep k6, trivial⟩
      · exact ⟨_, _, _, bs, rfl, s, eR, by omega, hb⟩
    · rintro σ H2 ⟨v3, v4, v5, bs, rfl, s, eR, lb, hb⟩
      refine ⟨s _ _ upd_same, ?_⟩
      have k2 : Tk H2 (upd H2 F (.ext (NdRaw P w F xs))) := tk_mut (s _ _ upd_same) (by intro _ z; cases z)
      have sE : Same H (upd H2 F (.ext (NdRaw P w F xs))) := fun b o e => by
        by_cases hb : b = F
        · subst hb
          rw [upd_same, ← eF]
          exact e
        · rw [upd_ne hb]
          exact kI s b o e hb
      refine ⟨_, rfl, R, bs, rfl, SqL.of (by rw [upd_ne nRF]; exact eR), fun b h => (hb b h).2.keep k2, ?_, ?_, ?_, fun D hD => ?_⟩
      · intro d hd d' hd'
        obtain ⟨b, h1, rfl⟩ := List.mem_map.mp hd
        obtain ⟨b', h2, rfl⟩ := List.mem_map.mp hd'
        obtain ⟨a1, n1, r1⟩ := (hb b h1).1
        obtain ⟨a2, n2, r2⟩ := (hb b' h2).1
        cases isV with
        | true =>
          obtain ⟨_, r1⟩ := r1
          obtain ⟨_, r2⟩ := r2
          rw [r1, r2]
          rfl
        | false =>
          obtain ⟨_, r1⟩ := r1
          obtain ⟨_, r2⟩ := r2
          rw [r1, r2]
          rfl
      · refine .inl fun d hd => ?_
        obtain ⟨b, h1, rfl⟩ := List.mem_map.mp hd
        obtain ⟨a1, n1, r1⟩ := (hb b h1).1
        cases isV with
        | true =>
          obtain ⟨_, r1⟩ := r1
          rw [r1]
          exact ⟨_, _, rfl⟩
        | false =>
          obtain ⟨_, r1⟩ := r1
          rw [r1]
          exact ⟨_, _, rfl⟩
      · intro b h1
        obtain ⟨a1, n1, r1⟩ := (hb b h1).1
        cases isV with
        | true =>
          obtain ⟨_, r1⟩ := r1
          rw [r1]
          show (1 : Nat) ≤ 8
          decide
        | false =>
          obtain ⟨_, r1⟩ := r1
          rw [r1]
          show (1 : Nat) ≤ 8
          decide
      · refine q _ D (sortD bs) (sE.trans (same_new hD)) upd_same (by rw [(sortD_perm bs).length_eq]; omega) fun b h => ?_
        have h := (sortD_perm bs).mem_iff.mp h
        exact ⟨(hb b h).1, ((hb b h).2.keep k2).keep (tk_new hD)⟩
end
end Lv
set_option maxHeartbeats 4000000
namespace Lv
open PySem PySem.Spec PyProof.Rows L2
section
variable {P : Program} {w : World} {K : PySem.W.Frag} {mg : Str → Option Value} {base : Heap}
def sp_ascending : Sp := sp1 fun v H Q => ∃ (a : Addr) (ns ks : List Str), v = .ref a ∧ (H a = some (.lst (ns.map V.str)) ∨ H a = some (.tup (ns.map V.str))) ∧ ns.length ≤ 4000 ∧ ks.length < 64 ∧ (∀ x ∈ ns, x ∈ ks) ∧
  ∀ H' p ys, Same H H' → H' p = some (.tup (ys.map V.str)) → ys.Nodup → (∀ k, k ∈ ys ↔ k ∈ ns) → sortedS ys = true → Q (.ref p) H'
abbrev N_ascending : List Str := ["names"]
theorem sc_ascending : FnScope N_ascending ["names"] (defScope s_ascending) := ⟨rfl, rfl, rfl, by decide +kernel, rfl, by decide +kernel, by decide +kernel⟩
theorem ok_ascending (T : Txt K mg) : CallOk P w K mg base 1 "ascending" ["names"] [] sp_ascending := by
  refine call_ok T 3 T.g_ascending sc_ascending (fun vs H Q E h => ?_) (fun f cdv A outer s H vs Q E hr h => ?_) (fun _ _ _ _ _ _ us hl => match us, hl with | [_], _ => rfl)
  · obtain ⟨x0, rfl, _⟩ := h
    rfl
  · have nd := sc_ascending.nd
    have hu := hu_of hr
    have hu64 := hu64_of hr
    obtain ⟨x0, rfl, h⟩ := h
    refine ⟨_, (pss_one (ps_ret (pe_callTy (tupleOfK (K := K)) (by rfl) T.b_tuple boot_tuple (pa_cons (pe_callB (cr_sortedSetS (P := P) (w := w)) (by rfl) T.b_sorted boot_sorted (pa_cons (pe_callTy (cr_setS (P := P) (w := w) (K := K)) (by rfl) T.b_set boot_set (pa_cons (pv 0) pa_nil)) pa_nil)) pa_nil)))), ?_⟩
    obtain ⟨a, ns, ks, rfl, e, hl, h64, hk, q⟩ := h
    refine ⟨_, rfl, a, ns, rfl, e.imp SqL.of SqT.of, (by show ns.length + 1 < 4096; omega), fun p c hp => ?_⟩
    have s1 := same_new (o := SetSO P w p (fun j => decide (j ∈ ns)) c) hp
    refine ⟨p, _, _, ks, rfl, upd_same, h64, fun k h => hk k (of_decide_eq_true h), fun ys r hn hm hs hr => ?_⟩
    have s2 := s1.trans (same_new (o := .lst (ys.map V.str)) hr)
    refine ⟨r, _, rfl, .inl ⟨SqL.of upd_same, fun t ht => ?_⟩⟩
    exact q _ t ys (s2.trans (same_new ht)) upd_same hn (fun k => (hm k).trans decide_eq_true_iff) hs
def aims (s : Say) : List Str := match s with
  | .vouch n _ => [n]
  | .circle n _ => [n]
  | .back n _ => [n]
  | _ => []
theorem tag_aim (s : Say) : s.tag ∈ (["vouch", "back", "circle"] : List Str) → ∃ n d, s.rest = Dt.str n :: d ∧ n ∈ aims s := by
  have ne : ¬ ("block" : Str) ∈ (["vouch", "back", "circle"] : List Str) ∧ ¬ ("take" : Str) ∈ (["vouch", "back", "circle"] : List Str) ∧ ¬ ("speak" : Str) ∈ (["vouch", "back", "circle"] : List Str) ∧ ¬ ("post" : Str) ∈ (["vouch", "back", "circle"] : List Str) := by decide +kernel
  intro h
  cases s with
  | vouch n k => exact ⟨n, _, rfl, List.mem_singleton.mpr rfl⟩
  | circle n k => exact ⟨n, _, rfl, List.mem_singleton.mpr rfl⟩
  | back n k => exact ⟨n, _, rfl, List.mem_singleton.mpr rfl⟩
  | block n k => exact absurd h ne.1
  | take n => exact absurd h ne.2.1
  | speak a b c => exact absurd h ne.2.2.1
  | post n t b => exact absurd h ne.2.2.2
def sp_named (K : PySem.W.Frag) : Sp := sp2 fun v x H Q => ∃ (f : ForumA) (a : Addr) (l : List LRow) (ks : List Str), v = .ref f.x ∧ f.At K H ∧ f.fl.length ≤ 1000 ∧ x = .ref a ∧ H a = some (.tup (l.map fun e => .ref e.a)) ∧ (∀ e ∈ l, LRow.At K H e) ∧ l.length ≤ 1000 ∧
  ks.length < 64 ∧ (∀ e ∈ f.fl, e.n ∈ ks) ∧ (∀ e ∈ l, e.acc ∈ ks ∧ ∀ n ∈ aims e.s, n ∈ ks) ∧ ∀ H' p xs, Same H H' → H' p = some (.tup xs) → Q (.ref p) H'
abbrev N_named : List Str := ["forum", "letters", "found", "founder", "letter"]
theorem sc_named : FnScope N_named ["forum", "letters"] (defScope s_named) := ⟨rfl, rfl, rfl, by decide +kernel, rfl, by decide +kernel, by decide +kernel⟩
theorem ok_named (T : Txt K mg) : CallOk P w K mg base 2 "named" ["forum", "letters"] [] (sp_named K) := by
  refine call_ok T 45 T.g_named sc_named (fun vs H Q E h => ?_) (fun f cdv A outer s H vs Q E hr h => ?_) (fun _ _ _ _ _ _ us hl => match us, hl with | [_, _], _ => rfl)
  · obtain ⟨x0, x1, rfl, _⟩ := h
    rfl
  · have nd := sc_named.nd
    have hu := hu_of hr
    have hu64 := hu64_of hr
    have c_ascending := ok_ascending (P := P) (w := w) (base := base) T
    obtain ⟨x0, x1, rfl, h⟩ := h
    refine ⟨_, (pss_cons (ps_set (i := 2) nd rfl (Or.inl rfl) (pe_op op_cat (pe_lc (own := [("founder", 3)]) (g := (gName 3)) (tt := tYes) rfl nd (pi_tup (fldK (K := K) (pv 0) rfl)) (blkOk_by (own := [("founder", 3)]) (N := N_named) (sc := defScope s_named) (by decide +kernel)) (fun _ _ _ _ _ => (pg_name (i := 3) nd rfl (Or.inl rfl))) (fun _ _ _ _ _ => pts_nil) (fun _ _ _ _ _ => (fldK (K := K) (pv 3) rfl))) (pe_lc (own := [("letter", 4)]) (g := (gName 4)) (tt := tYes) rfl nd (pi_tup (pv 1)) (blkOk_by (own := [("letter", 4)]) (N := N_named) (sc := defScope s_named) (by decide +kernel)) (fun _ _ _ _ _ => (pg_name (i := 4) nd rfl (Or.inl rfl))) (fun _ _ _ _ _ => pts_nil) (fun _ _ _ _ _ => (fldK (K := K) (pv 4) rfl))))) (pss_cons (ps_set (i := 2) nd rfl (Or.inl rfl) (pe_op op_cat (pv 2) (pe_lc (own := [("letter", 4)]) (g := (gName 4)) rfl nd (pi_tup (pv 1)) (blkOk_by (own := [("letter", 4)]) (N := N_named) (sc := defScope s_named) (by decide +kernel)) (fun _ _ _ _ _ => (pg_name (i := 4) nd rfl (Or.inl rfl))) (fun _ _ _ _ _ => (pts_one (pt_cmpR (inSK (K := K)) (pe_ix (ixT (K := K)) (fldK (K := K) (pv 4) rfl) pe_int (fun _ _ => rfl)) (pe_tup (pa_cons pe_str (pa_cons pe_str (pa_cons pe_str pa_nil)))) (by with_unfolding_all rfl)))) (fun _ _ _ _ _ => (pe_ix (ixT (K := K)) (fldK (K := K) (pv 4) rfl) pe_int (fun _ _ => rfl)))))) (pss_one (ps_ret (pe_callO c_ascending (hr.mono (by first | decide | omega)) (pa_cons (pv 2) pa_nil)))))), ?_⟩
    obtain ⟨f, a, l, ks, rfl, hf, hfl, rfl, e, hat, hl, h64, hk1, hk2, q⟩ := h
    have sz1001 : (1001 : Nat) < sizeLine := by decide
    have sz4 : (4000 : Nat) ≤ sizeLine := by decide
    obtain ⟨⟨dx, of⟩, _, efo, hfo, _, _⟩ := hf
    refine ⟨_, rfl, _, _, _, _, _, rfl, of, T.cls_Forum, T.na_Forum_founders, fl_Forum_founders .., f.fo, rfl, ⟨_, SqT.of efo⟩, fun D hD => lc_rel walk_tup (RF (ixMap f.fl fun e => V.str e.n)) hD (fun H' s => SqT.of (s _ _ efo)) rfl ?_ ?_⟩
    · rintro i x m H3 H4 hi hl2 s e3 r ⟨rfl, hx2⟩
      obtain ⟨n, hn, rfl⟩ := getMap hx2
      obtain ⟨dn, on⟩ := hfo n (List.mem_of_getElem? hn)
      have o3 := s _ _ on
      rw [List.length_map] at hi
      refine ⟨rfl, _, rfl, _, _, _, _, _, rfl, o3, T.cls_Founder, T.na_Founder_name, fl_Founder_name .., lc_takeF hD (by omega) hl2 s e3 r ?_⟩
      rw [ixMap_at hn]
    intro m1 H1 l1 s1 e1 r1
    have r1 := rf_map r1 (by simp)
    have ea1 := s1 _ _ e
    refine ⟨_, rfl, a, rfl, ⟨_, SqT.of ea1⟩, fun D2 hD2 => lc_rel walk_tup (RF (ixMap l fun e => V.str e.acc)) hD2 (fun H' s => SqT.of (s _ _ ea1)) rfl ?_ ?_⟩
    · rintro i x m H3 H4 hi hl2 s e3 r ⟨rfl, hx2⟩
      obtain ⟨n, hn, rfl⟩ := getMap hx2
      obtain ⟨⟨dx, sv, o, tv⟩, _⟩ := LRow.same (s1.trans s) (hat n (List.mem_of_getElem? hn))
      rw [List.length_map] at hi
      refine ⟨rfl, _, rfl, _, _, _, _, _, rfl, o, T.cls_Letter, T.na_Letter_account, fl_Letter_account .., lc_takeF hD2 (by omega) hl2 s e3 r ?_⟩
      rw [ixMap_at hn]
    intro m2 H2 l2 s2 e2 r2
    have r2 := rf_map r2 (by simp)
    have ll1 : m1.length = f.fl.length := by rw [r1, List.length_map]
    have ll2 : m2.length = l.length := by rw [r2, List.length_map]
    refine ⟨D, D2, _, _, rfl, rfl, s2 _ _ e1, e2, by omega, fun C hC => ?_⟩
    have sC := (s1.trans s2).trans (same_new (o := .lst (m1 ++ m2)) hC)
    have eaC := sC _ _ e
    refine ⟨_, rfl, _, rfl, a, rfl, ⟨_, SqT.of eaC⟩, fun D3 hD3 => lc_rel walk_tup (fun i m _ => ∃ ns : List Str, m = ns.map V.str ∧ ns.length ≤ i ∧ ∀ x ∈ ns, x ∈ ks) hD3 (fun H' s => SqT.of (s _ _ eaC)) ⟨[], rfl, Nat.le_refl _, fun x hx => by cases hx⟩ ?_ ?_⟩
    · rintro i x m H3 H4 hi hl2 s e3 ⟨ns, rfl, ln, hns⟩ ⟨rfl, hx2⟩
      obtain ⟨n, hn, rfl⟩ := getMap hx2
      have hnl := List.mem_of_getElem? hn
      obtain ⟨⟨dx, sv, o, tv⟩, _⟩ := LRow.same (sC.trans s) (hat n hnl)
      rw [List.length_map] at hi
      obtain ⟨b, ys, rfl, eb, ty⟩ := Say.at_ tv
      refine ⟨rfl, _, rfl, _, _, _, _, _, rfl, o, T.cls_Letter, T.na_Letter_saying, fl_Letter_saying .., _, _, _, _, rfl, rfl, SqT.of eb, atI_nat (j := 0) rfl, (by show 3 ≤ sizeLine; decide), fun t ht => ?_⟩
      have s4 := same_new (o := .tup [.str "vouch", .str "back", .str "circle"]) ht
      refine ⟨t, _, rfl, .inr (SqT.of upd_same), rfl, rfl, _, rfl, ?_⟩
      have ei : inV (V.str n.s.tag) [V.str "vouch", V.str "back", V.str "circle"] = decide (n.s.tag ∈ (["vouch", "back", "circle"] : List Str)) := inV_str (zs := ["vouch", "back", "circle"])
      rw [if_neg Bool.false_ne_true, ei]
      refine iteB (fun hc => ?_) (fun hc => ?_)
      · obtain ⟨z, r, er, hz⟩ := tag_aim n.s (of_decide_eq_true hc)
        rw [er] at ty
        obtain ⟨ys', rfl⟩ : ∃ ys', ys = .str z :: ys' := by
          match ys, ty with
          | y :: ys', ty => exact ⟨ys', by rw [ty.1]⟩
        have o4 := s4 _ _ o
        have eb4 := s4 _ _ eb
        exact ⟨_, rfl, _, _, _, _, _, rfl, o4, T.cls_Letter, T.na_Letter_saying, fl_Letter_saying .., _, _, _, _, rfl, rfl, SqT.of eb4, atI_nat (j := 1) rfl, lc_take hD3 (by omega) hl2 (s.trans s4) (s4 _ _ e3) ⟨ns ++ [z], by rw [List.map_append]; rfl, by simp; omega, fun x hx => by
          rcases List.mem_append.mp hx with hx | hx
          · exact hns x hx
          · rw [List.mem_singleton.mp hx]
            exact (hk2 n hnl).2 z hz⟩⟩
      · exact lc_skip hl2 (s.trans s4) (s4 _ _ e3) ⟨ns, rfl, by omega, hns⟩
    · rintro m H3 hl2 s e3 ⟨ns, rfl, ln, hns⟩
      rw [List.length_map] at ln hl2
      refine ⟨C, D3, _, _, rfl, rfl, s _ _ upd_same, e3, by rw [List.length_append, List.length_map, ll1, ll2]; omega, fun r hr => ?_⟩
      have sR := sC.trans (s.trans (same_new (o := .lst (m1 ++ m2 ++ ns.map V.str)) hr))
      have eAll : m1 ++ m2 ++ ns.map V.str = (f.fl.map (·.n) ++ l.map (·.acc) ++ ns).map V.str := by
        rw [r1, r2, List.map_append, List.map_append, List.map_map, List.map_map]
        rfl
      refine ⟨_, rfl, _, rfl, r, f.fl.map (·.n) ++ l.map (·.acc) ++ ns, ks, rfl, .inl (by rw [upd_same, eAll]), by rw [List.length_append, List.length_append, List.length_map, List.length_map]; omega, h64, fun x hx => ?_, fun H' p ys s' ep _ _ _ => q _ p _ (sR.trans s') ep⟩
      rcases List.mem_append.mp hx with hx | hx
      · rcases List.mem_append.mp hx with hx | hx
        · obtain ⟨e, he, rfl⟩ := List.mem_map.mp hx
          exact hk1 e he
        · obtain ⟨e, he, rfl⟩ := List.mem_map.mp hx
          exact (hk2 e he).1
      · exact hns x hx
end
end Lv
set_option maxHeartbeats 4000000
namespace Lv
open PySem PySem.Spec PyProof.Rows L2
theorem ne_nil_of {fs : List (Str × V)} {m : Str} {v : V} (h : fs.lookup m = some v) : fs ≠ [] := by
  intro z
  rw [z] at h
  cases h
def Ki (H H' : Hp) : Prop := ∀ b C dx fs, H b = some (.ins C dx fs) → fs ≠ [] → H' b = some (.ins C dx fs)
theorem ki_same {H H' : Hp} (s : Same H H') : Ki H H' := fun b C dx fs e _ => s b _ e
theorem Ki.trans {H1 H2 H3 : Hp} (x : Ki H1 H2) (y : Ki H2 H3) : Ki H1 H3 := fun b C dx fs e n => y b C dx fs (x b C dx fs e n) n
theorem ki_but {x C dx : Addr} {H H' : Hp} (ox : H x = some (.ins C dx [])) (b : But1 x H H') : Ki H H' := fun a C' dx' fs e n => b a _ e fun z => by
  rw [z, ox] at e
  exact n (HO.ins.inj (Option.some.inj e)).2.2.symm
theorem tk_but {x C dx : Addr} {fs : List (Str × V)} {H H' : Hp} (ox : H x = some (.ins C dx fs)) (b : But1 x H H') : Tk H H' := fun a xs e => b a _ e fun z => by
  rw [z, ox] at e
  cases e
section
variable {K : PySem.W.Frag} {H H' : Hp}
theorem LRow.keepN {e : LRow} (k : Ki H H') (t : Tk H H') (h : LRow.At K H e) : LRow.At K H' e := by
  obtain ⟨⟨dx, sv, o, tv⟩, ok⟩ := h
  exact ⟨⟨dx, sv, k _ _ _ _ o (ne_nil_of (fl_Letter_account ..)), tv.keep t⟩, ok⟩
theorem FRow.keepN {e : FRow} (k : Ki H H') (h : FRow.At K H e) : FRow.At K H' e := by
  obtain ⟨dx, o⟩ := h
  exact ⟨dx, k _ _ _ _ o (ne_nil_of (fl_Founder_name ..))⟩
theorem ForumA.At.keepN {f : ForumA} (k : Ki H H') (t : Tk H H') (h : f.At K H) : f.At K H' := by
  obtain ⟨⟨dx, o⟩, ⟨dl, la, na, ol, t1, t2⟩, h2, h3, h4, h5⟩ := h
  exact ⟨⟨dx, k _ _ _ _ o (ne_nil_of (fl_Forum_ladder ..))⟩, ⟨dl, la, na, k _ _ _ _ ol (ne_nil_of (fl_Ladder_lends ..)), t1.keep t, t2.keep t⟩, t _ _ h2, fun e he => FRow.keepN k (h3 e he), t _ _ h4, t _ _ h5⟩
end
def fl_State (v0 v1 v2 v3 v4 v5 v6 v7 : V) : List (Str × V) := (putF "_backs" v7 (putF "_vouches" v6 (putF "_accounts" v5 (putF "_counts" v4 (putF "_split" v3 (putF "letters" v2 (putF "_texts" v1 (putF "forum" v0 []))))))))
theorem fl_State_forum (v0 v1 v2 v3 v4 v5 v6 v7 : V) : (fl_State v0 v1 v2 v3 v4 v5 v6 v7).lookup ("forum" : Str) = some v0 := by
  unfold fl_State
  rw [lookup_putF, if_neg (show ¬ (("forum" : Str) = "_backs") by decide +kernel), lookup_putF, if_neg (show ¬ (("forum" : Str) = "_vouches") by decide +kernel), lookup_putF, if_neg (show ¬ (("forum" : Str) = "_accounts") by decide +kernel), lookup_putF, if_neg (show ¬ (("forum" : Str) = "_counts") by decide +kernel), lookup_putF, if_neg (show ¬ (("forum" : Str) = "_split") by decide +kernel), lookup_putF, if_neg (show ¬ (("forum" : Str) = "letters") by decide +kernel), lookup_putF, if_neg (show ¬ (("forum" : Str) = "_texts") by decide +kernel), lookup_putF, if_pos rfl]
theorem fl_State_texts (v0 v1 v2 v3 v4 v5 v6 v7 : V) : (fl_State v0 v1 v2 v3 v4 v5 v6 v7).lookup ("_texts" : Str) = some v1 := by
  unfold fl_State
  rw [lookup_putF, if_neg (show ¬ (("_texts" : Str) = "_backs") by decide +kernel), lookup_putF, if_neg (show ¬ (("_texts" : Str) = "_vouches") by decide +kernel), lookup_putF, if_neg (show ¬ (("_texts" : Str) = "_accounts") by decide +kernel), lookup_putF, if_neg (show ¬ (("_texts" : Str) = "_counts") by decide +kernel), lookup_putF, if_neg (show ¬ (("_texts" : Str) = "_split") by decide +kernel), lookup_putF, if_neg (show ¬ (("_texts" : Str) = "letters") by decide +kernel), lookup_putF, if_pos rfl]
theorem fl_State_letters (v0 v1 v2 v3 v4 v5 v6 v7 : V) : (fl_State v0 v1 v2 v3 v4 v5 v6 v7).lookup ("letters" : Str) = some v2 := by
  unfold fl_State
  rw [lookup_putF, if_neg (show ¬ (("letters" : Str) = "_backs") by decide +kernel), lookup_putF, if_neg (show ¬ (("letters" : Str) = "_vouches") by decide +kernel), lookup_putF, if_neg (show ¬ (("letters" : Str) = "_accounts") by decide +kernel), lookup_putF, if_neg (show ¬ (("letters" : Str) = "_counts") by decide +kernel), lookup_putF, if_neg (show ¬ (("letters" : Str) = "_split") by decide +kernel), lookup_putF, if_pos rfl]
theorem fl_State_split (v0 v1 v2 v3 v4 v5 v6 v7 : V) : (fl_State v0 v1 v2 v3 v4 v5 v6 v7).lookup ("_split" : Str) = some v3 := by
  unfold fl_State
  rw [lookup_putF, if_neg (show ¬ (("_split" : Str) = "_backs") by decide +kernel), lookup_putF, if_neg (show ¬ (("_split" : Str) = "_vouches") by decide +kernel), lookup_putF, if_neg (show ¬ (("_split" : Str) = "_accounts") by decide +kernel), lookup_putF, if_neg (show ¬ (("_split" : Str) = "_counts") by decide +kernel), lookup_putF, if_pos rfl]
theorem fl_State_counts (v0 v1 v2 v3 v4 v5 v6 v7 : V) : (fl_State v0 v1 v2 v3 v4 v5 v6 v7).lookup ("_counts" : Str) = some v4 := by
  unfold fl_State
  rw [lookup_putF, if_neg (show ¬ (("_counts" : Str) = "_backs") by decide +kernel), lookup_putF, if_neg (show ¬ (("_counts" : Str) = "_vouches") by decide +kernel), lookup_putF, if_neg (show ¬ (("_counts" : Str) = "_accounts") by decide +kernel), lookup_putF, if_pos rfl]
theorem fl_State_accounts (v0 v1 v2 v3 v4 v5 v6 v7 : V) : (fl_State v0 v1 v2 v3 v4 v5 v6 v7).lookup ("_accounts" : Str) = some v5 := by
  unfold fl_State
  rw [lookup_putF, if_neg (show ¬ (("_accounts" : Str) = "_backs") by decide +kernel), lookup_putF, if_neg (show ¬ (("_accounts" : Str) = "_vouches") by decide +kernel), lookup_putF, if_pos rfl]
theorem fl_State_vouches (v0 v1 v2 v3 v4 v5 v6 v7 : V) : (fl_State v0 v1 v2 v3 v4 v5 v6 v7).lookup ("_vouches" : Str) = some v6 := by
  unfold fl_State
  rw [lookup_putF, if_neg (show ¬ (("_vouches" : Str) = "_backs") by decide +kernel), lookup_putF, if_pos rfl]
theorem fl_State_backs (v0 v1 v2 v3 v4 v5 v6 v7 : V) : (fl_State v0 v1 v2 v3 v4 v5 v6 v7).lookup ("_backs" : Str) = some v7 := by
  unfold fl_State
  rw [lookup_putF, if_pos rfl]
theorem fl_State_no (v0 v1 v2 v3 v4 v5 v6 v7 : V) {m : Str} (h0 : ¬ m = "forum") (h1 : ¬ m = "_texts") (h2 : ¬ m = "letters") (h3 : ¬ m = "_split") (h4 : ¬ m = "_counts") (h5 : ¬ m = "_accounts") (h6 : ¬ m = "_vouches") (h7 : ¬ m = "_backs") : (fl_State v0 v1 v2 v3 v4 v5 v6 v7).lookup m = none := by
  unfold fl_State
  rw [lookup_putF, if_neg h7, lookup_putF, if_neg h6, lookup_putF, if_neg h5, lookup_putF, if_neg h4, lookup_putF, if_neg h3, lookup_putF, if_neg h2, lookup_putF, if_neg h1, lookup_putF, if_neg h0]
  rfl
def fl_S2 (v0 v1 : V) : List (Str × V) := (putF "_texts" v1 (putF "forum" v0 []))
theorem fl_S2_forum (v0 v1 : V) : (fl_S2 v0 v1).lookup ("forum" : Str) = some v0 := by
  unfold fl_S2
  rw [lookup_putF, if_neg (show ¬ (("forum" : Str) = "_texts") by decide +kernel), lookup_putF, if_pos rfl]
theorem fl_S2_texts (v0 v1 : V) : (fl_S2 v0 v1).lookup ("_texts" : Str) = some v1 := by
  unfold fl_S2
  rw [lookup_putF, if_pos rfl]
theorem fl_S2_no (v0 v1 : V) {m : Str} (h0 : ¬ m = "forum") (h1 : ¬ m = "_texts") : (fl_S2 v0 v1).lookup m = none := by
  unfold fl_S2
  rw [lookup_putF, if_neg h1, lookup_putF, if_neg h0]
  rfl
def fl_S3 (v0 v1 v2 : V) : List (Str × V) := (putF "letters" v2 (putF "_texts" v1 (putF "forum" v0 [])))
theorem fl_S3_forum (v0 v1 v2 : V) : (fl_S3 v0 v1 v2).lookup ("forum" : Str) = some v0 := by
  unfold fl_S3
  rw [lookup_putF, if_neg (show ¬ (("forum" : Str) = "letters") by decide +kernel), lookup_putF, if_neg (show ¬ (("forum" : Str) = "_texts") by decide +kernel), lookup_putF, if_pos rfl]
theorem fl_S3_texts (v0 v1 v2 : V) : (fl_S3 v0 v1 v2).lookup ("_texts" : Str) = some v1 := by
  unfold fl_S3
  rw [lookup_putF, if_neg (show ¬ (("_texts" : Str) = "letters") by decide +kernel), lookup_putF, if_pos rfl]
theorem fl_S3_letters (v0 v1 v2 : V) : (fl_S3 v0 v1 v2).lookup ("letters" : Str) = some v2 := by
  unfold fl_S3
  rw [lookup_putF, if_pos rfl]
theorem fl_S3_no (v0 v1 v2 : V) {m : Str} (h0 : ¬ m = "forum") (h1 : ¬ m = "_texts") (h2 : ¬ m = "letters") : (fl_S3 v0 v1 v2).lookup m = none := by
  unfold fl_S3
  rw [lookup_putF, if_neg h2, lookup_putF, if_neg h1, lookup_putF, if_neg h0]
  rfl
def fl_S4 (v0 v1 v2 v3 : V) : List (Str × V) := (putF "_split" v3 (putF "letters" v2 (putF "_texts" v1 (putF "forum" v0 []))))
theorem fl_S4_forum (v0 v1 v2 v3 : V) : (fl_S4 v0 v1 v2 v3).lookup ("forum" : Str) = some v0 := by
  unfold fl_S4
  rw [lookup_putF, if_neg (show ¬ (("forum" : Str) = "_split") by decide +kernel), lookup_putF, if_neg (show ¬ (("forum" : Str) = "letters") by decide +kernel), lookup_putF, if_neg (show ¬ (("forum" : Str) = "_texts") by decide +kernel), lookup_putF, if_pos rfl]
theorem fl_S4_texts (v0 v1 v2 v3 : V) : (fl_S4 v0 v1 v2 v3).lookup ("_texts" : Str) = some v1 := by
  unfold fl_S4
  rw [lookup_putF, if_neg (show ¬ (("_texts" : Str) = "_split") by decide +kernel), lookup_putF, if_neg (show ¬ (("_texts" : Str) = "letters") by decide +kernel), lookup_putF, if_pos rfl]
theorem fl_S4_letters (v0 v1 v2 v3 : V) : (fl_S4 v0 v1 v2 v3).lookup ("letters" : Str) = some v2 := by
  unfold fl_S4
  rw [lookup_putF, if_neg (show ¬ (("letters" : Str) = "_split") by decide +kernel), lookup_putF, if_pos rfl]
theorem fl_S4_split (v0 v1 v2 v3 : V) : (fl_S4 v0 v1 v2 v3).lookup ("_split" : Str) = some v3 := by
  unfold fl_S4
  rw [lookup_putF, if_pos rfl]
theorem fl_S4_no (v0 v1 v2 v3 : V) {m : Str} (h0 : ¬ m = "forum") (h1 : ¬ m = "_texts") (h2 : ¬ m = "letters") (h3 : ¬ m = "_split") : (fl_S4 v0 v1 v2 v3).lookup m = none := by
  unfold fl_S4
  rw [lookup_putF, if_neg h3, lookup_putF, if_neg h2, lookup_putF, if_neg h1, lookup_putF, if_neg h0]
  rfl
def fl_S5 (v0 v1 v2 v3 v4 : V) : List (Str × V) := (putF "_counts" v4 (putF "_split" v3 (putF "letters" v2 (putF "_texts" v1 (putF "forum" v0 [])))))
theorem fl_S5_forum (v0 v1 v2 v3 v4 : V) : (fl_S5 v0 v1 v2 v3 v4).lookup ("forum" : Str) = some v0 := by
  unfold fl_S5
  rw [lookup_putF, if_neg (show ¬ (("forum" : Str) = "_counts") by decide +kernel), lookup_putF, if_neg (show ¬ (("forum" : Str) = "_split") by decide +kernel), lookup_putF, if_neg (show ¬ (("forum" : Str) = "letters") by decide +kernel), lookup_putF, if_neg (show ¬ (("forum" : Str) = "_texts") by decide +kernel), lookup_putF, if_pos rfl]
theorem fl_S5_texts (v0 v1 v2 v3 v4 : V) : (fl_S5 v0 v1 v2 v3 v4).lookup ("_texts" : Str) = some v1 := by
  unfold fl_S5
  rw [lookup_putF, if_neg (show ¬ (("_texts" : Str) = "_counts") by decide +kernel), lookup_putF, if_neg (show ¬ (("_texts" : Str) = "_split") by decide +kernel), lookup_putF, if_neg (show ¬ (("_texts" : Str) = "letters") by decide +kernel), lookup_putF, if_pos rfl]
theorem fl_S5_letters (v0 v1 v2 v3 v4 : V) : (fl_S5 v0 v1 v2 v3 v4).lookup ("letters" : Str) = some v2 := by
  unfold fl_S5
  rw [lookup_putF, if_neg (show ¬ (("letters" : Str) = "_counts") by decide +kernel), lookup_putF, if_neg (show ¬ (("letters" : Str) = "_split") by decide +kernel), lookup_putF, if_pos rfl]
theorem fl_S5_split (v0 v1 v2 v3 v4 : V) : (fl_S5 v0 v1 v2 v3 v4).lookup ("_split" : Str) = some v3 := by
  unfold fl_S5
  rw [lookup_putF, if_neg (show ¬ (("_split" : Str) = "_counts") by decide +kernel), lookup_putF, if_pos rfl]
theorem fl_S5_counts (v0 v1 v2 v3 v4 : V) : (fl_S5 v0 v1 v2 v3 v4).lookup ("_counts" : Str) = some v4 := by
  unfold fl_S5
  rw [lookup_putF, if_pos rfl]
theorem fl_S5_no (v0 v1 v2 v3 v4 : V) {m : Str} (h0 : ¬ m = "forum") (h1 : ¬ m = "_texts") (h2 : ¬ m = "letters") (h3 : ¬ m = "_split") (h4 : ¬ m = "_counts") : (fl_S5 v0 v1 v2 v3 v4).lookup m = none := by
  unfold fl_S5
  rw [lookup_putF, if_neg h4, lookup_putF, if_neg h3, lookup_putF, if_neg h2, lookup_putF, if_neg h1, lookup_putF, if_neg h0]
  rfl
def fl_S6 (v0 v1 v2 v3 v4 v5 : V) : List (Str × V) := (putF "_accounts" v5 (putF "_counts" v4 (putF "_split" v3 (putF "letters" v2 (putF "_texts" v1 (putF "forum" v0 []))))))
theorem fl_S6_forum (v0 v1 v2 v3 v4 v5 : V) : (fl_S6 v0 v1 v2 v3 v4 v5).lookup ("forum" : Str) = some v0 := by
  unfold fl_S6
  rw [lookup_putF, if_neg (show ¬ (("forum" : Str) = "_accounts") by decide +kernel), lookup_putF, if_neg (show ¬ (("forum" : Str) = "_counts") by decide +kernel), lookup_putF, if_neg (show ¬ (("forum" : Str) = "_split") by decide +kernel), lookup_putF, if_neg (show ¬ (("forum" : Str) = "letters") by decide +kernel), lookup_putF, if_neg (show ¬ (("forum" : Str) = "_texts") by decide +kernel), lookup_putF, if_pos rfl]
theorem fl_S6_texts (v0 v1 v2 v3 v4 v5 : V) : (fl_S6 v0 v1 v2 v3 v4 v5).lookup ("_texts" : Str) = some v1 := by
  unfold fl_S6
  rw [lookup_putF, if_neg (show ¬ (("_texts" : Str) = "_accounts") by decide +kernel), lookup_putF, if_neg (show ¬ (("_texts" : Str) = "_counts") by decide +kernel), lookup_putF, if_neg (show ¬ (("_texts" : Str) = "_split") by decide +kernel), lookup_putF, if_neg (show ¬ (("_texts" : Str) = "letters") by decide +kernel), lookup_putF, if_pos rfl]
theorem fl_S6_letters (v0 v1 v2 v3 v4 v5 : V) : (fl_S6 v0 v1 v2 v3 v4 v5).lookup ("letters" : Str) = some v2 := by
  unfold fl_S6
  rw [lookup_putF, if_neg (show ¬ (("letters" : Str) = "_accounts") by decide +kernel), lookup_putF, if_neg (show ¬ (("letters" : Str) = "_counts") by decide +kernel), lookup_putF, if_neg (show ¬ (("letters" : Str) = "_split") by decide +kernel), lookup_putF, if_pos rfl]
theorem fl_S6_split (v0 v1 v2 v3 v4 v5 : V) : (fl_S6 v0 v1 v2 v3 v4 v5).lookup ("_split" : Str) = some v3 := by
  unfold fl_S6
  rw [lookup_putF, if_neg (show ¬ (("_split" : Str) = "_accounts") by decide +kernel), lookup_putF, if_neg (show ¬ (("_split" : Str) = "_counts") by decide +kernel), lookup_putF, if_pos rfl]
theorem fl_S6_counts (v0 v1 v2 v3 v4 v5 : V) : (fl_S6 v0 v1 v2 v3 v4 v5).lookup ("_counts" : Str) = some v4 := by
  unfold fl_S6
  rw [lookup_putF, if_neg (show ¬ (("_counts" : Str) = "_accounts") by decide +kernel), lookup_putF, if_pos rfl]
theorem fl_S6_accounts (v0 v1 v2 v3 v4 v5 : V) : (fl_S6 v0 v1 v2 v3 v4 v5).lookup ("_accounts" : Str) = some v5 := by
  unfold fl_S6
  rw [lookup_putF, if_pos rfl]
theorem fl_S6_no (v0 v1 v2 v3 v4 v5 : V) {m : Str} (h0 : ¬ m = "forum") (h1 : ¬ m = "_texts") (h2 : ¬ m = "letters") (h3 : ¬ m = "_split") (h4 : ¬ m = "_counts") (h5 : ¬ m = "_accounts") : (fl_S6 v0 v1 v2 v3 v4 v5).lookup m = none := by
  unfold fl_S6
  rw [lookup_putF, if_neg h5, lookup_putF, if_neg h4, lookup_putF, if_neg h3, lookup_putF, if_neg h2, lookup_putF, if_neg h1, lookup_putF, if_neg h0]
  rfl
def fl_S7 (v0 v1 v2 v3 v4 v5 v6 : V) : List (Str × V) := (putF "_vouches" v6 (putF "_accounts" v5 (putF "_counts" v4 (putF "_split" v3 (putF "letters" v2 (putF "_texts" v1 (putF "forum" v0 [])))))))
theorem fl_S7_forum (v0 v1 v2 v3 v4 v5 v6 : V) : (fl_S7 v0 v1 v2 v3 v4 v5 v6).lookup ("forum" : Str) = some v0 := by
  unfold fl_S7
  rw [lookup_putF, if_neg (show ¬ (("forum" : Str) = "_vouches") by decide +kernel), lookup_putF, if_neg (show ¬ (("forum" : Str) = "_accounts") by decide +kernel), lookup_putF, if_neg (show ¬ (("forum" : Str) = "_counts") by decide +kernel), lookup_putF, if_neg (show ¬ (("forum" : Str) = "_split") by decide +kernel), lookup_putF, if_neg (show ¬ (("forum" : Str) = "letters") by decide +kernel), lookup_putF, if_neg (show ¬ (("forum" : Str) = "_texts") by decide +kernel), lookup_putF, if_pos rfl]
theorem fl_S7_texts (v0 v1 v2 v3 v4 v5 v6 : V) : (fl_S7 v0 v1 v2 v3 v4 v5 v6).lookup ("_texts" : Str) = some v1 := by
  unfold fl_S7
  rw [lookup_putF, if_neg (show ¬ (("_texts" : Str) = "_vouches") by decide +kernel), lookup_putF, if_neg (show ¬ (("_texts" : Str) = "_accounts") by decide +kernel), lookup_putF, if_neg (show ¬ (("_texts" : Str) = "_counts") by decide +kernel), lookup_putF, if_neg (show ¬ (("_texts" : Str) = "_split") by decide +kernel), lookup_putF, if_neg (show ¬ (("_texts" : Str) = "letters") by decide +kernel), lookup_putF, if_pos rfl]
theorem fl_S7_letters (v0 v1 v2 v3 v4 v5 v6 : V) : (fl_S7 v0 v1 v2 v3 v4 v5 v6).lookup ("letters" : Str) = some v2 := by
  unfold fl_S7
  rw [lookup_putF, if_neg (show ¬ (("letters" : Str) = "_vouches") by decide +kernel), lookup_putF, if_neg (show ¬ (("letters" : Str) = "_accounts") by decide +kernel), lookup_putF, if_neg (show ¬ (("letters" : Str) = "_counts") by decide +kernel), lookup_putF, if_neg (show ¬ (("letters" : Str) = "_split") by decide +kernel), lookup_putF, if_pos rfl]
theorem fl_S7_split (v0 v1 v2 v3 v4 v5 v6 : V) : (fl_S7 v0 v1 v2 v3 v4 v5 v6).lookup ("_split" : Str) = some v3 := by
  unfold fl_S7
  rw [lookup_putF, if_neg (show ¬ (("_split" : Str) = "_vouches") by decide +kernel), lookup_putF, if_neg (show ¬ (("_split" : Str) = "_accounts") by decide +kernel), lookup_putF, if_neg (show ¬ (("_split" : Str) = "_counts") by decide +kernel), lookup_putF, if_pos rfl]
theorem fl_S7_counts (v0 v1 v2 v3 v4 v5 v6 : V) : (fl_S7 v0 v1 v2 v3 v4 v5 v6).lookup ("_counts" : Str) = some v4 := by
  unfold fl_S7
  rw [lookup_putF, if_neg (show ¬ (("_counts" : Str) = "_vouches") by decide +kernel), lookup_putF, if_neg (show ¬ (("_counts" : Str) = "_accounts") by decide +kernel), lookup_putF, if_pos rfl]
theorem fl_S7_accounts (v0 v1 v2 v3 v4 v5 v6 : V) : (fl_S7 v0 v1 v2 v3 v4 v5 v6).lookup ("_accounts" : Str) = some v5 := by
  unfold fl_S7
  rw [lookup_putF, if_neg (show ¬ (("_accounts" : Str) = "_vouches") by decide +kernel), lookup_putF, if_pos rfl]
theorem fl_S7_vouches (v0 v1 v2 v3 v4 v5 v6 : V) : (fl_S7 v0 v1 v2 v3 v4 v5 v6).lookup ("_vouches" : Str) = some v6 := by
  unfold fl_S7
  rw [lookup_putF, if_pos rfl]
theorem fl_S7_no (v0 v1 v2 v3 v4 v5 v6 : V) {m : Str} (h0 : ¬ m = "forum") (h1 : ¬ m = "_texts") (h2 : ¬ m = "letters") (h3 : ¬ m = "_split") (h4 : ¬ m = "_counts") (h5 : ¬ m = "_accounts") (h6 : ¬ m = "_vouches") : (fl_S7 v0 v1 v2 v3 v4 v5 v6).lookup m = none := by
  unfold fl_S7
  rw [lookup_putF, if_neg h6, lookup_putF, if_neg h5, lookup_putF, if_neg h4, lookup_putF, if_neg h3, lookup_putF, if_neg h2, lookup_putF, if_neg h1, lookup_putF, if_neg h0]
  rfl
def StateAt (K : PySem.W.Frag) (H : Hp) (x : Addr) (fx : Addr) (l : List LRow) : Prop := ∃ dx D t sp cn ac vo ba, H x = some (.ins (He.ga K "State") dx (fl_State (.ref fx) (.ref D) (.ref t) sp cn ac vo ba)) ∧ H D = some (.dK (lDict l)) ∧ H t = some (.tup (l.map fun e => .ref e.a))
section
variable {P : Program} {w : World} {K : PySem.W.Frag} {mg : Str → Option Value} {base : Heap}
def sp_State_init (K : PySem.W.Frag) : Sp := sp3 fun v x0 x1 H Q => ∃ (x dx : Addr) (f : ForumA) (a : Addr) (l : List LRow) (ks : List Str), v = .ref x ∧ H x = some (.ins (He.ga K "State") dx []) ∧ x0 = .ref f.x ∧ f.At K H ∧ f.fl.length ≤ 1000 ∧ x1 = .ref a ∧ H a = some (.tup (l.map fun e => .ref e.a)) ∧ (∀ e ∈ l, LRow.At K H e) ∧ l.length ≤ 1000 ∧ (l.map LRow.text).Nodup ∧
  ks.length < 64 ∧ (∀ e ∈ f.fl, e.n ∈ ks) ∧ (∀ e ∈ l, e.acc ∈ ks ∧ ∀ n ∈ aims e.s, n ∈ ks) ∧ ∀ H' l', But1 x H H' → l'.Perm l → l' = texF l → StateAt K H' x f.x l' → Q .non H'
abbrev N_State_init : List Str := ["self", "forum", "letters", "index", "letter", "vouched", "backed", "row"]
theorem sc_State_init : FnScope N_State_init ["self", "forum", "letters"] (defScope s_State_init) := ⟨rfl, rfl, rfl, by decide +kernel, rfl, by decide +kernel, by decide +kernel⟩
theorem ok_State_init (T : Txt K mg) : MakeOk P w K mg base 10 "State" (He.ga K "State") ["self", "forum", "letters"] (sp_State_init K) := by
  refine make_ok (q := "State.__init__") T 46 T.g_State T.mk_State sc_State_init (fun vs H Q E h => ?_) (fun f cdv A outer s H vs Q E hr h => ?_) (fun _ _ _ _ _ _ us hl => match us, hl with | [_, _, _], _ => rfl)
  · obtain ⟨x0, x1, x2, rfl, _⟩ := h
    rfl
  · have nd := sc_State_init.nd
    have hu := hu_of hr
    have hu64 := hu64_of hr
    have c_texts_of := ok_texts_of (P := P) (w := w) (base := base) T
    have c_splits_of := ok_splits_of (P := P) (w := w) (base := base) T
    have c_counted := ok_counted (P := P) (w := w) (base := base) T
    have c_named := ok_named (P := P) (w := w) (base := base) T
    have c_sayings_that_count := ok_sayings_that_count (P := P) (w := w) (base := base) T
    obtain ⟨x0, x1, x2, rfl, h⟩ := h
    refine ⟨_, (pss_cons (ps_for PassesOwn.never rfl (pi_enumT (K := K) (by rfl) T.b_enumerate (pa_cons (pv 2) pa_nil)) (pg_tup rfl (pgs_cons (pg_name (i := 3) nd rfl (Or.inl rfl)) (pgs_cons (pg_name (i := 4) nd rfl (Or.inl rfl)) pgs_nil))) (pss_one (ps_if (pt_not (pt_val (pe_callB (C8.call_isC (T.ins T.cls_Letter (by decide +kernel))) (by rfl) T.b_isinstance boot_isinstance (pa_cons (pv 4) (pa_cons (pe_gref T.g_Letter) pa_nil))))) (pss_one ps_never) pss_nil))) (pss_cons (ps_fld (pv 0) (pv 1) rfl) (pss_cons (ps_fld (pv 0) (pe_callO c_texts_of (hr.mono (by first | decide | omega)) (pa_cons (pe_callTy (tupleOfK (K := K)) (by rfl) T.b_tuple boot_tuple (pa_cons (pv 2) pa_nil)) pa_nil)) rfl) (pss_cons (ps_fld (pv 0) (pe_callTy (tupleOfK (K := K)) (by rfl) T.b_tuple boot_tuple (pa_cons (pe_callTy call_listV (by rfl) T.b_list boot_list (pa_cons (pe_bm0 PySem.F.plainAttrs_dict PySem.F.slot_dict_values PySem.F.type_dict_values mt_values (fldK (K := K) (pv 0) rfl)) pa_nil)) pa_nil)) rfl) (pss_cons (ps_fld (pv 0) (pe_callO c_splits_of (hr.mono (by first | decide | omega)) (pa_cons (fldK (K := K) (pv 0) rfl) pa_nil)) rfl) (pss_cons (ps_fld (pv 0) (pe_callO c_counted (hr.mono (by first | decide | omega)) (pa_cons (fldK (K := K) (pv 0) rfl) (pa_cons (fldK (K := K) (pv 0) rfl) pa_nil))) rfl) (pss_cons (ps_fld (pv 0) (pe_callO c_named (hr.mono (by first | decide | omega)) (pa_cons (pv 1) (pa_cons (fldK (K := K) (pv 0) rfl) pa_nil))) rfl) (pss_cons (ps_set (i := 5) nd rfl (Or.inl rfl) (pe_callO c_sayings_that_count (hr.mono (by first | decide | omega)) (pa_cons (fldK (K := K) (pv 0) rfl) (pa_cons pe_str pa_nil)))) (pss_cons (ps_fld (pv 0) (pe_callTy (tupleOfK (K := K)) (by rfl) T.b_tuple boot_tuple (pa_cons (pe_lc (own := [("row", 7)]) (g := (gName 7)) rfl nd (pi_list (pv 5)) (blkOk_by (own := [("row", 7)]) (N := N_State_init) (sc := defScope s_State_init) (by decide +kernel)) (fun _ _ _ _ _ => (pg_name (i := 7) nd rfl (Or.inl rfl))) (fun _ _ _ _ _ => (pts_one (PW.pt (pw_and (pt_cmpR op_gt (pe_ix (ixT (K := K)) (pv 7) pe_int (fun _ _ => rfl)) pe_int (nomark _)) (pw_and1 (pt_cmpR op_ne (pe_ix (ixT (K := K)) (pv 7) pe_int (fun _ _ => rfl)) (pe_ix (ixT (K := K)) (pv 7) pe_int (fun _ _ => rfl)) (nomark _))))))) (fun _ _ _ _ _ => (pv 7))) pa_nil)) rfl) (pss_cons (ps_set (i := 6) nd rfl (Or.inl rfl) (pe_callO c_sayings_that_count (hr.mono (by first | decide | omega)) (pa_cons (fldK (K := K) (pv 0) rfl) (pa_cons pe_str pa_nil)))) (pss_one (ps_fld (pv 0) (pe_callTy (tupleOfK (K := K)) (by rfl) T.b_tuple boot_tuple (pa_cons (pe_lc (own := [("row", 7)]) (g := (gName 7)) rfl nd (pi_list (pv 6)) (blkOk_by (own := [("row", 7)]) (N := N_State_init) (sc := defScope s_State_init) (by decide +kernel)) (fun _ _ _ _ _ => (pg_name (i := 7) nd rfl (Or.inl rfl))) (fun _ _ _ _ _ => (pts_one (PW.pt (pw_and (truthK (K := K) (pe_ix (ixT (K := K)) (pv 7) pe_int (fun _ _ => rfl))) (pw_and1 (pt_cmpR op_ne (pe_ix (ixT (K := K)) (pv 7) pe_int (fun _ _ => rfl)) (pe_ix (ixT (K := K)) (pv 7) pe_int (fun _ _ => rfl)) (nomark _))))))) (fun _ _ _ _ _ => (pe_slice (slAK (K := K)) (pv 7) po_none (po_some pe_int)))) pa_nil)) rfl)))))))))))), ?_⟩
    obtain ⟨x, dx, f, a, l, ks, rfl, ox, rfl, hf, hfl, rfl, e, hat, hl, nz, h64, hk1, hk2, q⟩ := h
    refine ⟨_, rfl, a, _, rfl, SqT.of e, for_it walk_enumT (fun i σ H2 => ∃ (v3 v4 : Option V), σ = [some (.ref x), some (.ref f.x), some (.ref a), v3, v4, none, none, none] ∧ Same H H2) ⟨_, _, rfl, fun _ _ z => z⟩ (fun i σ H2 _ ⟨_, _, _, s⟩ => SqT.of (s _ _ e)) ?_ ?_⟩
    · rintro i y σ H2 H3 hi ⟨v3, v4, rfl, s⟩ ⟨T1, x1, x2, rfl, hT, rfl, hx1, hx2⟩
      obtain ⟨n, hn, rfl⟩ := getMap hx2
      cases hx1
      have s1 := same_to (o := .tup [.int (i : Nat), .ref n.a]) s hT
      obtain ⟨⟨dn, sv, o, tv⟩, _⟩ := LRow.same s1 (hat n (List.mem_of_getElem? hn))
      refine ⟨T1, _, rfl, SqT.of upd_same, rfl, _, _, rfl, _, _, rfl, rfl, ?_⟩
      exact ⟨_, rfl, _, _, _, rfl, o, _, rfl, iteF ⟨_, _, rfl, s1⟩⟩
    rintro σ H0 ⟨v3, v4, rfl, s0⟩
    have o0 := s0 _ _ ox
    refine ⟨_, rfl, _, rfl, x, _, dx, _, rfl, o0, T.cls_State, T.na_State_forum, (by decide), ?_⟩
    have b1 := but1_upd (o := .ins (He.ga K "State") dx (putF "forum" (.ref f.x) [])) (but_same (S := (· = x)) s0)
    have k1 := ki_but ox b1
    have t1 := tk_but ox b1
    have ea1 := t1 _ _ e
    refine ⟨_, rfl, a, _, rfl, .inr ⟨SqT.of ea1, _, rfl, a, l, rfl, ea1, fun e he => LRow.keepN k1 t1 (hat e he), nz, hl, fun H2 D l' s2 hp eT eD => ?_⟩⟩
    have o2 := s2 _ _ upd_same
    refine ⟨_, rfl, x, _, dx, _, rfl, o2, T.cls_State, T.na_State_texts, Nat.lt_of_le_of_lt (putF_len (Nat.le_refl _)) (by decide), ?_⟩
    have nDx : D ≠ x := fun z => by
      rw [z, o2] at eD
      cases eD
    have o3 : (upd H2 x (.ins (He.ga K "State") dx (fl_S2 (.ref f.x) (.ref D)))) x = some (.ins (He.ga K "State") dx (fl_S2 (.ref f.x) (.ref D))) := upd_same
    have b3 : But1 x H (upd H2 x (.ins (He.ga K "State") dx (fl_S2 (.ref f.x) (.ref D)))) := but1_upd (b1.trans (but_same s2))
    have eD3 : (upd H2 x (.ins (He.ga K "State") dx (fl_S2 (.ref f.x) (.ref D)))) D = some (.dK (lDict l')) := by rw [upd_ne nDx]; exact eD
    refine ⟨_, rfl, ⟨_, _, _, _, _, rfl, o3, T.cls_State, T.na_State_texts, fl_S2_texts .., .inr (.inr (.inl ⟨rfl, .inl ⟨_, eD3⟩⟩)), D, _, rfl, rfl, eD3, fun v hv => ?_⟩⟩
    have s4 := same_new (o := ValO v D) hv
    refine ⟨v, D, _, rfl, upd_same, s4 _ _ eD3, fun p hp2 => ?_⟩
    have s5 := s4.trans (same_new (o := .lst ((lDict l').map (·.2))) hp2)
    refine ⟨p, _, rfl, .inl ⟨SqL.of upd_same, fun t ht => ?_⟩⟩
    have s6 := s5.trans (same_new (o := .tup ((lDict l').map (·.2))) ht)
    have el : (lDict l').map (·.2) = l'.map fun e => V.ref e.a := by
      unfold lDict
      rw [List.map_map]
      rfl
    rw [el] at s6 ⊢
    generalize hH7 : upd _ t (HO.tup (l'.map fun e => V.ref e.a)) = H7 at s6 ⊢
    have et7 : H7 t = some (.tup (l'.map fun e => V.ref e.a)) := by rw [← hH7]; exact upd_same
    have o7 : H7 x = some (.ins (He.ga K "State") dx (fl_S2 (.ref f.x) (.ref D))) := s6 _ _ o3
    have eD7 := s6 _ _ eD3
    have b7 := b3.trans (but_same s6)
    refine ⟨_, rfl, x, _, dx, _, rfl, o7, T.cls_State, T.na_State_letters, (by exact Nat.lt_of_le_of_lt (putF_len (putF_len (Nat.le_refl _))) (by decide)), ?_⟩
    have o8 : (upd H7 x (.ins (He.ga K "State") dx (fl_S3 (.ref f.x) (.ref D) (.ref t)))) x = some (.ins (He.ga K "State") dx (fl_S3 (.ref f.x) (.ref D) (.ref t))) := upd_same
    have b8 : But1 x H (upd H7 x (.ins (He.ga K "State") dx (fl_S3 (.ref f.x) (.ref D) (.ref t)))) := but1_upd b7
    have t8 : Tk H7 (upd H7 x (.ins (He.ga K "State") dx (fl_S3 (.ref f.x) (.ref D) (.ref t)))) := tk_mut o7 (by intro _ z; cases z)
    have eD8 : (upd H7 x (.ins (He.ga K "State") dx (fl_S3 (.ref f.x) (.ref D) (.ref t)))) D = some (.dK (lDict l')) := by rw [upd_ne nDx]; exact eD7
    have et8 := t8 _ _ et7
    show tSeq _ _ _ _ (upd H7 x (.ins (He.ga K "State") dx (fl_S3 (.ref f.x) (.ref D) (.ref t))))
    generalize upd H7 x (.ins (He.ga K "State") dx (fl_S3 (.ref f.x) (.ref D) (.ref t))) = H8 at o8 b8 t8 eD8 et8 ⊢
    have hat' : ∀ {Hk : Hp}, But1 x H Hk → ∀ e ∈ l', LRow.At K Hk e := fun b e he => LRow.keepN (ki_but ox b) (tk_but ox b) (hat e (hp.mem_iff.mp he))
    have hl' : l'.length ≤ 1000 := by rw [hp.length_eq]; exact hl
    refine ⟨_, rfl, ⟨_, _, _, _, _, rfl, o8, T.cls_State, T.na_State_letters, fl_S3_letters .., _, rfl, t, l', rfl, et8, hat' b8, hl', fun H9 S kvs s9 nS => ?_⟩⟩
    have o9 := s9 _ _ o8
    have b9 := b8.trans (but_same s9)
    have et9 := s9 _ _ et8
    have eD9 := s9 _ _ eD8
    refine ⟨_, rfl, x, _, dx, _, rfl, o9, T.cls_State, T.na_State_split, (by exact Nat.lt_of_le_of_lt (putF_len (putF_len (putF_len (Nat.le_refl _)))) (by decide)), ?_⟩
    have nSx : S ≠ x := fun z => by
      obtain ⟨_, e, _⟩ := nS
      rw [z, o9] at e
      cases e
    have oA : (upd H9 x (.ins (He.ga K "State") dx (fl_S4 (.ref f.x) (.ref D) (.ref t) (.ref S)))) x = some (.ins (He.ga K "State") dx (fl_S4 (.ref f.x) (.ref D) (.ref t) (.ref S))) := upd_same
    have bA0 : But1 x H9 (upd H9 x (.ins (He.ga K "State") dx (fl_S4 (.ref f.x) (.ref D) (.ref t) (.ref S)))) := but1_upd but_refl
    have bA : But1 x H (upd H9 x (.ins (He.ga K "State") dx (fl_S4 (.ref f.x) (.ref D) (.ref t) (.ref S)))) := but1_upd b9
    have tA : Tk H9 (upd H9 x (.ins (He.ga K "State") dx (fl_S4 (.ref f.x) (.ref D) (.ref t) (.ref S)))) := tk_mut o9 (by intro _ z; cases z)
    show tSeq _ _ _ _ (upd H9 x (.ins (He.ga K "State") dx (fl_S4 (.ref f.x) (.ref D) (.ref t) (.ref S))))
    generalize upd H9 x (.ins (He.ga K "State") dx (fl_S4 (.ref f.x) (.ref D) (.ref t) (.ref S))) = HA at oA bA0 bA tA ⊢
    have etA := tA _ _ et9
    have eDA := bA0 _ _ eD9 nDx
    have nSA := nS.but bA0 nSx tA
    refine ⟨_, rfl, ⟨_, _, _, _, _, rfl, oA, T.cls_State, T.na_State_letters, fl_S4_letters .., _, rfl, _, _, _, _, _, rfl, oA, T.cls_State, T.na_State_split, fl_S4_split .., _, _, rfl, t, l', S, kvs, rfl, etA, hat' bA, hl', rfl, nSA, fun HB C cv sB nC lC hC => ?_⟩⟩
    have oB := sB _ _ oA
    have bB := bA.trans (but_same sB)
    have etB := sB _ _ etA
    have eDB := sB _ _ eDA
    refine ⟨_, rfl, x, _, dx, _, rfl, oB, T.cls_State, T.na_State_counts, (by exact Nat.lt_of_le_of_lt (putF_len (putF_len (putF_len (putF_len (Nat.le_refl _))))) (by decide)), ?_⟩
    have nCx : C ≠ x := fun z => by
      obtain ⟨_, e, _⟩ := nC
      rw [z, oB] at e
      cases e
    have oC : (upd HB x (.ins (He.ga K "State") dx (fl_S5 (.ref f.x) (.ref D) (.ref t) (.ref S) (.ref C)))) x = some (.ins (He.ga K "State") dx (fl_S5 (.ref f.x) (.ref D) (.ref t) (.ref S) (.ref C))) := upd_same
    have bC0 : But1 x HB (upd HB x (.ins (He.ga K "State") dx (fl_S5 (.ref f.x) (.ref D) (.ref t) (.ref S) (.ref C)))) := but1_upd but_refl
    have bC : But1 x H (upd HB x (.ins (He.ga K "State") dx (fl_S5 (.ref f.x) (.ref D) (.ref t) (.ref S) (.ref C)))) := but1_upd bB
    have tC : Tk HB (upd HB x (.ins (He.ga K "State") dx (fl_S5 (.ref f.x) (.ref D) (.ref t) (.ref S) (.ref C)))) := tk_mut oB (by intro _ z; cases z)
    show tSeq _ _ _ _ (upd HB x (.ins (He.ga K "State") dx (fl_S5 (.ref f.x) (.ref D) (.ref t) (.ref S) (.ref C))))
    generalize upd HB x (.ins (He.ga K "State") dx (fl_S5 (.ref f.x) (.ref D) (.ref t) (.ref S) (.ref C))) = HC at oC bC0 bC tC ⊢
    have etC := tC _ _ etB
    have eDC := bC0 _ _ eDB nDx
    have nCC := nC.but bC0 nCx tC
    have hfC := ForumA.At.keepN (ki_but ox bC) (tk_but ox bC) hf
    refine ⟨_, rfl, _, rfl, ⟨_, _, _, _, _, rfl, oC, T.cls_State, T.na_State_letters, fl_S5_letters .., _, _, rfl, f, t, l', ks, rfl, hfC, hfl, rfl, etC, hat' bC, hl', h64, hk1, fun e he => hk2 e (hp.mem_iff.mp he), fun HD p2 nms sD _ => ?_⟩⟩
    have oD := sD _ _ oC
    have bD := bC.trans (but_same sD)
    have etD := sD _ _ etC
    have eDD := sD _ _ eDC
    have nCD := nCC.same sD
    refine ⟨_, rfl, x, _, dx, _, rfl, oD, T.cls_State, T.na_State_accounts, (by exact Nat.lt_of_le_of_lt (putF_len (putF_len (putF_len (putF_len (putF_len (Nat.le_refl _)))))) (by decide)), ?_⟩
    have nC2 : C ≠ x := nCx
    have oE : (upd HD x (.ins (He.ga K "State") dx (fl_S6 (.ref f.x) (.ref D) (.ref t) (.ref S) (.ref C) (.ref p2)))) x = some (.ins (He.ga K "State") dx (fl_S6 (.ref f.x) (.ref D) (.ref t) (.ref S) (.ref C) (.ref p2))) := upd_same
    have bE0 : But1 x HD (upd HD x (.ins (He.ga K "State") dx (fl_S6 (.ref f.x) (.ref D) (.ref t) (.ref S) (.ref C) (.ref p2)))) := but1_upd but_refl
    have bE : But1 x H (upd HD x (.ins (He.ga K "State") dx (fl_S6 (.ref f.x) (.ref D) (.ref t) (.ref S) (.ref C) (.ref p2)))) := but1_upd bD
    have tE : Tk HD (upd HD x (.ins (He.ga K "State") dx (fl_S6 (.ref f.x) (.ref D) (.ref t) (.ref S) (.ref C) (.ref p2)))) := tk_mut oD (by intro _ z; cases z)
    show tSeq _ _ _ _ (upd HD x (.ins (He.ga K "State") dx (fl_S6 (.ref f.x) (.ref D) (.ref t) (.ref S) (.ref C) (.ref p2))))
    generalize upd HD x (.ins (He.ga K "State") dx (fl_S6 (.ref f.x) (.ref D) (.ref t) (.ref S) (.ref C) (.ref p2))) = HE at oE bE0 bE tE ⊢
    have etE := tE _ _ etD
    have eDE := bE0 _ _ eDD nDx
    have nCE := nCD.but bE0 nCx tE
    have lC' : cv.length ≤ 1000 := by omega
    refine ⟨_, rfl, _, _, _, _, _, rfl, oE, T.cls_State, T.na_State_counts, fl_S6_counts .., _, _, rfl, C, l', cv, true, rfl, rfl, nCE, lC', hC, hat' bE, fun HF V1 bs sF eF lF hbF => ?_⟩
    have oF := sF _ _ oE
    refine ⟨_, rfl, V1, rfl, ⟨_, SqL.of eF⟩, fun Dx hDx => lc_rel walk_list (fun _ _ _ => True) hDx (fun H' s => SqL.of (s _ _ eF)) trivial ?_ ?_⟩
    · rintro i y m H3 H4 hi hl2 s3 e3 _ ⟨rfl, hx⟩
      obtain ⟨b, hb, rfl⟩ := getMap hx
      rw [List.length_map] at hi
      obtain ⟨⟨acc, n, k, er⟩, tv⟩ := hbF b (List.mem_of_getElem? hb)
      have er : b.2 = .tup [.str acc, .str n, .int k] := er
      rw [er] at tv
      obtain ⟨u, ys, eu1, eu, tu⟩ := tv.keep (tk_same s3)
      obtain rfl : ys = [.str acc, .str n, .int k] := by
        match ys, tu with
        | [a, b, c], tu =>
          obtain ⟨rfl, rfl, rfl, _⟩ := tu
          rfl
      rw [eu1]
      refine ⟨rfl, ?_⟩
      have z1001 : (1001 : Nat) < sizeLine := by decide
      have take : ∃ acc, H4 Dx = some (.lst acc) ∧ acc.length < sizeLine ∧ LcI HF Dx (fun _ _ _ => True) (i + 1) (upd H4 Dx (.lst (acc ++ [.ref u]))) := lc_take hDx (by omega) hl2 s3 e3 trivial
      have skip : LcI HF Dx (fun _ _ _ => True) (i + 1) H4 := lc_skip hl2 s3 e3 trivial
      refine ⟨_, rfl, _, _, _, _, rfl, rfl, SqT.of eu, atI_nat (j := 2) rfl, _, _, rfl, rfl, _, rfl, ?_⟩
      exact iteB (fun _ => ⟨_, rfl, _, _, _, _, rfl, rfl, SqT.of eu, atI_nat (j := 0) rfl, _, rfl, _, _, _, _, rfl, rfl, SqT.of eu, atI_nat (j := 1) rfl, rfl, _, rfl, iteB (fun _ => ⟨_, rfl, take⟩) (fun _ => skip)⟩) (fun _ => skip)
    intro m1 HG lG sG eG _
    refine ⟨Dx, _, rfl, .inl ⟨SqL.of eG, fun q1 hq1 => ?_⟩⟩
    have sG2 := (sF.trans sG).trans (same_new (o := .tup m1) hq1)
    generalize upd HG q1 (HO.tup m1) = HH at sG2 ⊢
    have oH := sG2 _ _ oE
    have etH := sG2 _ _ etE
    have eDH := sG2 _ _ eDE
    have nCH := nCE.same sG2
    have bH := bE.trans (but_same sG2)
    refine ⟨_, rfl, x, _, dx, _, rfl, oH, T.cls_State, T.na_State_vouches, (by exact Nat.lt_of_le_of_lt (putF_len (putF_len (putF_len (putF_len (putF_len (putF_len (Nat.le_refl _))))))) (by decide)), ?_⟩
    have oI : (upd HH x (.ins (He.ga K "State") dx (fl_S7 (.ref f.x) (.ref D) (.ref t) (.ref S) (.ref C) (.ref p2) (.ref q1)))) x = some (.ins (He.ga K "State") dx (fl_S7 (.ref f.x) (.ref D) (.ref t) (.ref S) (.ref C) (.ref p2) (.ref q1))) := upd_same
    have bI0 : But1 x HH (upd HH x (.ins (He.ga K "State") dx (fl_S7 (.ref f.x) (.ref D) (.ref t) (.ref S) (.ref C) (.ref p2) (.ref q1)))) := but1_upd but_refl
    have bI : But1 x H (upd HH x (.ins (He.ga K "State") dx (fl_S7 (.ref f.x) (.ref D) (.ref t) (.ref S) (.ref C) (.ref p2) (.ref q1)))) := but1_upd bH
    have tI : Tk HH (upd HH x (.ins (He.ga K "State") dx (fl_S7 (.ref f.x) (.ref D) (.ref t) (.ref S) (.ref C) (.ref p2) (.ref q1)))) := tk_mut oH (by intro _ z; cases z)
    show tSeq _ _ _ _ (upd HH x (.ins (He.ga K "State") dx (fl_S7 (.ref f.x) (.ref D) (.ref t) (.ref S) (.ref C) (.ref p2) (.ref q1))))
    generalize upd HH x (.ins (He.ga K "State") dx (fl_S7 (.ref f.x) (.ref D) (.ref t) (.ref S) (.ref C) (.ref p2) (.ref q1))) = HI at oI bI0 bI tI ⊢
    have etI := tI _ _ etH
    have eDI := bI0 _ _ eDH nDx
    have nCI := nCH.but bI0 nCx tI
    refine ⟨_, rfl, _, _, _, _, _, rfl, oI, T.cls_State, T.na_State_counts, fl_S7_counts .., _, _, rfl, C, l', cv, false, rfl, rfl, nCI, lC', hC, hat' bI, fun HJ V2 bs2 sJ eJ lJ hbJ => ?_⟩
    refine ⟨_, rfl, V2, rfl, ⟨_, SqL.of eJ⟩, fun Dy hDy => lc_rel walk_list (fun _ _ _ => True) hDy (fun H' s => SqL.of (s _ _ eJ)) trivial ?_ ?_⟩
    · rintro i y m H3 H4 hi hl2 s3 e3 _ ⟨rfl, hx⟩
      obtain ⟨b, hb, rfl⟩ := getMap hx
      rw [List.length_map] at hi
      obtain ⟨⟨acc, n, k, er⟩, tv⟩ := hbJ b (List.mem_of_getElem? hb)
      have er : b.2 = .tup [.str acc, .str n, .bl k] := er
      rw [er] at tv
      obtain ⟨u, ys, eu1, eu, tu⟩ := tv.keep (tk_same s3)
      obtain rfl : ys = [.str acc, .str n, .bl k] := by
        match ys, tu with
        | [a, b, c], tu =>
          obtain ⟨rfl, rfl, rfl, _⟩ := tu
          rfl
      rw [eu1]
      refine ⟨rfl, ?_⟩
      have z1001 : (1001 : Nat) < sizeLine := by decide
      have skip : LcI HJ Dy (fun _ _ _ => True) (i + 1) H4 := lc_skip hl2 s3 e3 trivial
      refine ⟨_, rfl, _, _, _, _, rfl, rfl, SqT.of eu, atI_nat (j := 2) rfl, k, rfl, ?_⟩
      refine iteB (fun _ => ⟨_, rfl, _, _, _, _, rfl, rfl, SqT.of eu, atI_nat (j := 0) rfl, _, rfl, _, _, _, _, rfl, rfl, SqT.of eu, atI_nat (j := 1) rfl, rfl, _, rfl, iteB (fun _ => ⟨_, rfl, ?_⟩) (fun _ => skip)⟩) (fun _ => skip)
      refine ⟨_, rfl, _, _, rfl, SqT.of eu, fun z => ?_, fun _ c hc => ?_⟩
      · exact lc_take hDy (by omega) hl2 s3 e3 trivial
      · exact lc_take hDy (by omega) hl2 (same_to s3 hc) (same_new hc _ _ e3) trivial
    intro m2 HK lK sK eK _
    refine ⟨Dy, _, rfl, .inl ⟨SqL.of eK, fun q2 hq2 => ?_⟩⟩
    have sL := (sJ.trans sK).trans (same_new (o := .tup m2) hq2)
    generalize upd HK q2 (HO.tup m2) = HL at sL ⊢
    have oL := sL _ _ oI
    have etL := sL _ _ etI
    have eDL := sL _ _ eDI
    have bL := bI.trans (but_same sL)
    refine ⟨_, rfl, x, _, dx, _, rfl, oL, T.cls_State, T.na_State_backs, (by exact Nat.lt_of_le_of_lt (putF_len (putF_len (putF_len (putF_len (putF_len (putF_len (putF_len (Nat.le_refl _)))))))) (by decide)), ?_⟩
    exact q _ l' (but1_upd bL) hp eT ⟨dx, D, t, _, _, _, _, _, upd_same, by rw [upd_ne nDx]; exact eDL, (tk_mut oL (by intro _ z; cases z)) _ _ etL⟩
end
end Lv
set_option maxHeartbeats 4000000
namespace Lv
open PySem PySem.Spec PyProof.Rows L2
theorem lDict_in (l : List LRow) (z : Str) : (valV (lDict l) (Sum.inr z : Key)).isSome = decide (z ∈ l.map LRow.text) := by
  rw [← valV_any]
  unfold lDict
  rw [List.any_map]
  by_cases h : z ∈ l.map LRow.text
  · rw [decide_eq_true h, List.any_eq_true]
    obtain ⟨e, he, rfl⟩ := List.mem_map.mp h
    exact ⟨e, he, decide_eq_true rfl⟩
  · rw [decide_eq_false h, List.any_eq_false]
    intro e he z2
    exact h (List.mem_map.mpr ⟨e, he, Sum.inr.inj (of_decide_eq_true z2)⟩)
section
variable {P : Program} {w : World} {K : PySem.W.Frag} {mg : Str → Option Value} {base : Heap}
def sp_State_contains (K : PySem.W.Frag) : Sp := sp2 fun v x0 H Q => ∃ (x fx : Addr) (l : List LRow) (e : LRow), v = .ref x ∧ StateAt K H x fx l ∧ x0 = .ref e.a ∧ LRow.At K H e ∧ ∀ H', Same H H' → Q (.bl (decide (e.text ∈ l.map LRow.text))) H'
abbrev N_State_contains : List Str := ["self", "letter"]
theorem sc_State_contains : FnScope N_State_contains ["self", "letter"] (defScope s_State_contains) := ⟨rfl, rfl, rfl, by decide +kernel, rfl, by decide +kernel, by decide +kernel⟩
theorem ok_State_contains (T : Txt K mg) : MethOk P w K mg base 3 (He.ga K "State") "__contains__" ["self", "letter"] (sp_State_contains K) := by
  refine meth_ok (q := "State.__contains__") T 49 T.cls_State T.me_State_contains sc_State_contains (fun vs H Q E h => ?_) (fun f cdv A outer s H vs Q E hr h => ?_) (fun _ _ _ _ _ _ us hl => match us, hl with | [_, _], _ => rfl)
  · obtain ⟨x0, x1, rfl, _⟩ := h
    rfl
  · have nd := sc_State_contains.nd
    have hu := hu_of hr
    have hu64 := hu64_of hr
    have c_letter_text := ok_letter_text (P := P) (w := w) (base := base) T
    obtain ⟨x0, x1, rfl, h⟩ := h
    refine ⟨_, (pss_one (ps_ret (pe_and (pe_callB (C8.call_isC (T.ins T.cls_Letter (by decide +kernel))) (by rfl) T.b_isinstance boot_isinstance (pa_cons (pv 1) (pa_cons (pe_gref T.g_Letter) pa_nil))) (pe_one (pe_cmp (pc_din hu (pe_callO c_letter_text (hr.mono (by first | decide | omega)) (pa_cons (pv 1) pa_nil)) (fldK (K := K) (pv 0) rfl))))))), ?_⟩
    obtain ⟨x, fx, l, e, rfl, ⟨dx, D, t, sp, cn, ac, vo, ba, o, eD, et⟩, rfl, ⟨⟨dl, sv, ol, tv⟩, ok1, ok2, ok3⟩, q⟩ := h
    refine ⟨_, rfl, _, _, _, rfl, ol, _, rfl, iteT ?_⟩
    refine ⟨_, rfl, _, rfl, e.a, e.acc, e.num, e.s, rfl, ⟨dl, sv, ol, tv⟩, ok1, ok2, ok3, fun H1 s1 => ?_⟩
    have o1 := s1 _ _ o
    have eD1 := s1 _ _ eD
    refine ⟨_, rfl, _, _, _, _, _, rfl, o1, T.cls_State, T.na_State_texts, fl_State_texts .., D, _, rfl, DGet.k (k := Sum.inr e.text) eD1, ?_⟩
    rw [lDict_in]
    exact q _ s1
end
end Lv
set_option maxHeartbeats 4000000
namespace Lv
open PySem PySem.Spec PyProof.Rows L2
def placesOk (ns : List Str) : Prop := ns.Nodup ∧ 1 ≤ ns.length ∧ ns.length ≤ 8 ∧ ∀ z ∈ ns, nameOk z = true
section
variable {P : Program} {w : World} {K : PySem.W.Frag} {mg : Str → Option Value} {base : Heap}
def sp_are_places : Sp := sp1 fun v H Q => ∃ (a : Addr) (ns : List Str), v = .ref a ∧ (H a = some (.lst (ns.map V.str)) ∨ H a = some (.tup (ns.map V.str))) ∧ placesOk ns ∧ ∀ H', Same H H' → Q (.bl true) H'
abbrev N_are_places : List Str := ["names", "name"]
theorem sc_are_places : FnScope N_are_places ["names"] (defScope s_are_places) := ⟨rfl, rfl, rfl, by decide +kernel, rfl, by decide +kernel, by decide +kernel⟩
theorem ok_are_places (T : Txt K mg) : CallOk P w K mg base 3 "are_places" ["names"] [] sp_are_places := by
  refine call_ok T 57 T.g_are_places sc_are_places (fun vs H Q E h => ?_) (fun f cdv A outer s H vs Q E hr h => ?_) (fun _ _ _ _ _ _ us hl => match us, hl with | [_], _ => rfl)
  · obtain ⟨x0, rfl, _⟩ := h
    rfl
  · have nd := sc_are_places.nd
    have hu := hu_of hr
    have hu64 := hu64_of hr
    have c_is_listed := ok_is_listed (P := P) (w := w) (base := base) T
    have c_is_name := ok_is_name (P := P) (w := w) (base := base) T
    have c_ascending := ok_ascending (P := P) (w := w) (base := base) T
    obtain ⟨x0, rfl, h⟩ := h
    refine ⟨_, (pss_cons (ps_if (PW.pt (pw_or (pt_not (pt_val (pe_callO c_is_listed (hr.mono (by first | decide | omega)) (pa_cons (pv 0) pa_nil)))) (pw_or (pt_not (pt_chain op_le op_le pe_int (pe_callB (lenSK (K := K)) (by rfl) T.b_len boot_len (pa_cons (pv 0) pa_nil)) (pe_gint T.i_MOST_PLACES))) (pw_or1 (pt_not (pt_val (pe_callB (allK (K := K)) (by rfl) T.b_all boot_all (pa_cons (pe_lc (own := [("name", 1)]) (g := (gName 1)) (tt := tYes) rfl nd (pi_seq (K := K) (pv 0)) (blkOk_by (own := [("name", 1)]) (N := N_are_places) (sc := defScope s_are_places) (by decide +kernel)) (fun _ _ _ _ _ => (pg_name (i := 1) nd rfl (Or.inl rfl))) (fun _ _ _ _ _ => pts_nil) (fun _ _ _ _ _ => (pe_callO c_is_name (hr.mono (by first | decide | omega)) (pa_cons (pv 1) pa_nil)))) pa_nil)))))))) (pss_one (ps_ret pe_bl)) pss_nil) (pss_one (ps_ret (pe_cmpR op_eq (pe_callB (lenSK (K := K)) (by rfl) T.b_len boot_len (pa_cons (pe_callO c_ascending (hr.mono (by first | decide | omega)) (pa_cons (pv 0) pa_nil)) pa_nil)) (pe_callB (lenSK (K := K)) (by rfl) T.b_len boot_len (pa_cons (pv 0) pa_nil)) (nomark _))))), ?_⟩
    obtain ⟨a, ns, rfl, e, ⟨nz, l1, l8, ok⟩, q⟩ := h
    have z9 : (9 : Nat) < sizeLine := by decide
    refine ⟨_, rfl, _, rfl, a, rfl, e.symm.imp (fun z => ⟨_, z⟩) (fun z => ⟨_, z⟩), fun H1 s1 => ⟨_, rfl, iteF ?_⟩⟩
    have e1 : H1 a = some (.lst (ns.map V.str)) ∨ H1 a = some (.tup (ns.map V.str)) := e.imp (s1 _ _) (s1 _ _)
    have sq : ∀ {Hk : Hp}, Same H1 Hk → SqL K Hk a (ns.map V.str) ∨ SqT K Hk a (ns.map V.str) := fun s => e1.imp (fun z => SqL.of (s _ _ z)) (fun z => SqT.of (s _ _ z))
    refine ⟨_, rfl, _, _, rfl, sq (fun _ _ z => z), _, _, rfl, rfl, _, rfl, ?_⟩
    rw [decide_eq_true (show (1 : Int) ≤ (ns.map V.str).length by rw [List.length_map]; omega)]
    refine iteT ⟨_, _, rfl, rfl, _, rfl, ?_⟩
    rw [decide_eq_true (show ((ns.map V.str).length : Int) ≤ 8 by rw [List.length_map]; omega)]
    refine iteF ?_
    have turn : ∀ (D : Addr) (hD : H1 D = none) (i : Nat) (x : V) (l : List V) (H3 : Hp), i < (ns.map V.str).length → l.length ≤ i → Same H1 H3 → H3 D = some (.lst l) → RF (fun _ => .bl true) i l H3 → (ns.map V.str)[i]? = some x →
        sp_is_name [x] H3 (fun y H4 => ∃ acc, H4 D = some (.lst acc) ∧ acc.length < sizeLine ∧ LcI H1 D (RF fun _ => .bl true) (i + 1) (upd H4 D (.lst (acc ++ [y])))) E0 := fun D hD i x l H3 hi hl s e2 r hx => by
      obtain ⟨n, hn, rfl⟩ := getMap hx
      rw [List.length_map] at hi
      have okn := ok n (List.mem_of_getElem? hn)
      refine ⟨_, rfl, n, rfl, name1000 okn, fun H4 s4 => ?_⟩
      rw [okn]
      exact lc_takeF hD (by omega) hl (s.trans s4) (s4 _ _ e2) r rfl
    have fin : ∀ H5, Same H1 H5 → tOp rEq (tCB (fun xs H Q => ∃ p ys, xs = [V.ref p] ∧ (SqL K H p ys ∨ SqT K H p ys) ∧ Q (V.int ys.length) H) (tCons (tCall sp_ascending [] E0 (tCons (tVar 0) tNil)) tNil)) (tCB (fun xs H Q => ∃ p ys, xs = [V.ref p] ∧ (SqL K H p ys ∨ SqT K H p ys) ∧ Q (V.int ys.length) H) (tCons (tVar 0) tNil)) (L2.start N_are_places [V.ref a]) H5 Q := fun H5 s5 => by
      refine ⟨_, rfl, _, rfl, a, ns, ns, rfl, e1.imp (s5 _ _) (s5 _ _), by omega, by omega, fun x hx => hx, fun H6 p ys s6 ep hn hm hs => ⟨p, _, rfl, .inr (SqT.of ep), _, rfl, a, _, rfl, sq (s5.trans s6), rfl, ?_⟩⟩
      have l1 := nd_len hn fun x hx => (hm x).mp hx
      have l2 := nd_len nz fun x hx => (hm x).mpr hx
      rw [decide_eq_true (show V.int ((ys.map V.str).length : Nat) = V.int ((ns.map V.str).length : Nat) by rw [List.length_map, List.length_map, Nat.le_antisymm l1 l2])]
      exact q _ (s1.trans (s5.trans s6))
    rcases e1 with e1 | e1
    · refine ⟨_, rfl, a, rfl, .inl ⟨⟨_, SqL.of e1⟩, fun D hD => lc_rel walk_list (RF fun _ => .bl true) hD (fun H2 s => SqL.of (s _ _ e1)) rfl ?_ ?_⟩⟩
      · rintro i x l H2 H3 hi hl2 s e2 r ⟨rfl, hx2⟩
        exact ⟨rfl, _, rfl, turn D hD i x l H3 hi hl2 s e2 r hx2⟩
      · intro l5 H5 hl5 s5 e5 r5
        have r5 : l5 = _ := r5
        rw [r5, range_bl] at e5
        refine ⟨D, _, rfl, SqL.of e5, _, rfl, ?_⟩
        rw [allTrue]
        exact iteF (fin H5 s5)
    · refine ⟨_, rfl, a, rfl, .inr ⟨⟨_, SqT.of e1⟩, fun D hD => lc_rel walk_tup (RF fun _ => .bl true) hD (fun H2 s => SqT.of (s _ _ e1)) rfl ?_ ?_⟩⟩
      · rintro i x l H2 H3 hi hl2 s e2 r ⟨rfl, hx2⟩
        exact ⟨rfl, _, rfl, turn D hD i x l H3 hi hl2 s e2 r hx2⟩
      · intro l5 H5 hl5 s5 e5 r5
        have r5 : l5 = _ := r5
        rw [r5, range_bl] at e5
        refine ⟨D, _, rfl, SqL.of e5, _, rfl, ?_⟩
        rw [allTrue]
        exact iteF (fin H5 s5)
end
end Lv
set_option maxHeartbeats 4000000
namespace Lv
open PySem PySem.Spec PyProof.Rows L2
def fl_Places (v0 v1 v2 v3 : V) : List (Str × V) := (putF "_sent" v3 (putF "_way" v2 (putF "_sure" v1 (putF "_forum" v0 []))))
theorem fl_Places_forum (v0 v1 v2 v3 : V) : (fl_Places v0 v1 v2 v3).lookup ("_forum" : Str) = some v0 := by
  unfold fl_Places
  rw [lookup_putF, if_neg (show ¬ (("_forum" : Str) = "_sent") by decide +kernel), lookup_putF, if_neg (show ¬ (("_forum" : Str) = "_way") by decide +kernel), lookup_putF, if_neg (show ¬ (("_forum" : Str) = "_sure") by decide +kernel), lookup_putF, if_pos rfl]
theorem fl_Places_sure (v0 v1 v2 v3 : V) : (fl_Places v0 v1 v2 v3).lookup ("_sure" : Str) = some v1 := by
  unfold fl_Places
  rw [lookup_putF, if_neg (show ¬ (("_sure" : Str) = "_sent") by decide +kernel), lookup_putF, if_neg (show ¬ (("_sure" : Str) = "_way") by decide +kernel), lookup_putF, if_pos rfl]
theorem fl_Places_way (v0 v1 v2 v3 : V) : (fl_Places v0 v1 v2 v3).lookup ("_way" : Str) = some v2 := by
  unfold fl_Places
  rw [lookup_putF, if_neg (show ¬ (("_way" : Str) = "_sent") by decide +kernel), lookup_putF, if_pos rfl]
theorem fl_Places_sent (v0 v1 v2 v3 : V) : (fl_Places v0 v1 v2 v3).lookup ("_sent" : Str) = some v3 := by
  unfold fl_Places
  rw [lookup_putF, if_pos rfl]
theorem fl_Places_no (v0 v1 v2 v3 : V) {m : Str} (h0 : ¬ m = "_forum") (h1 : ¬ m = "_sure") (h2 : ¬ m = "_way") (h3 : ¬ m = "_sent") : (fl_Places v0 v1 v2 v3).lookup m = none := by
  unfold fl_Places
  rw [lookup_putF, if_neg h3, lookup_putF, if_neg h2, lookup_putF, if_neg h1, lookup_putF, if_neg h0]
  rfl
theorem same_made {H H' : Hp} {x dx C : Addr} (hx : H x = none) (hd : H dx = none) (b : But1 x (upd (upd H dx (.own x)) x (.ins C dx [])) H') : Same H H' := fun a o e => b a o (by rw [upd_ne (ne_of_none e hx), upd_ne (ne_of_none e hd)]; exact e) (ne_of_none e hx)
section
variable {P : Program} {w : World} {K : PySem.W.Frag} {mg : Str → Option Value} {base : Heap}
def sp_told (K : PySem.W.Frag) : Sp := sp2 fun v x0 H Q => ∃ (p dp : Addr) (f : ForumA) (su wy se : V) (D : Addr) (l : List LRow) (ks : List Str), v = .ref p ∧ H p = some (.ins (He.ga K "Places") dp (fl_Places (.ref f.x) su wy se)) ∧ f.At K H ∧ f.fl.length ≤ 1000 ∧ x0 = .ref D ∧ H D = some (.dK (lDict l)) ∧ (∀ e ∈ l, LRow.At K H e) ∧ l.length ≤ 1000 ∧ (l.map LRow.text).Nodup ∧
  ks.length < 64 ∧ (∀ e ∈ f.fl, e.n ∈ ks) ∧ (∀ e ∈ l, e.acc ∈ ks ∧ ∀ n ∈ aims e.s, n ∈ ks) ∧ ∀ H' y l', Same H H' → l'.Perm l → l' = texF l → StateAt K H' y f.x l' → Q (.ref y) H'
abbrev N_Places_told : List Str := ["self", "letters"]
theorem sc_Places_told : FnScope N_Places_told ["self", "letters"] (defScope s_Places_told) := ⟨rfl, rfl, rfl, by decide +kernel, rfl, by decide +kernel, by decide +kernel⟩
theorem ok_Places_told (T : Txt K mg) : MethOk P w K mg base 12 (He.ga K "Places") "_told" ["self", "letters"] (sp_told K) := by
  refine meth_ok (q := "Places._told") T 61 T.cls_Places T.me_Places_told sc_Places_told (fun vs H Q E h => ?_) (fun f cdv A outer s H vs Q E hr h => ?_) (fun _ _ _ _ _ _ us hl => match us, hl with | [_, _], _ => rfl)
  · obtain ⟨x0, x1, rfl, _⟩ := h
    rfl
  · have nd := sc_Places_told.nd
    have hu := hu_of hr
    have hu64 := hu64_of hr
    have c_State := ok_State_init (P:=P) (w:=w) (base:=base) T
    obtain ⟨x0, x1, rfl, h⟩ := h
    refine ⟨_, (pss_one (ps_ret (pe_makeO c_State (hr.mono (by first | decide | omega)) (pa_cons (fldK (K := K) (pv 0) rfl) (pa_cons (pe_callTy (tupleOfK (K := K)) (by rfl) T.b_tuple boot_tuple (pa_cons (pe_callTy call_listV (by rfl) T.b_list boot_list (pa_cons (pe_bm0 PySem.F.plainAttrs_dict PySem.F.slot_dict_values PySem.F.type_dict_values mt_values (pv 1)) pa_nil)) pa_nil)) pa_nil))))), ?_⟩
    obtain ⟨p, dp, f, su, wy, se, D, l, ks, rfl, o, hf, hfl, rfl, eD, hat, hl, nz, h64, hk1, hk2, q⟩ := h
    refine ⟨_, rfl, _, _, _, _, _, rfl, o, T.cls_Places, T.na_Places_forum, fl_Places_forum .., _, rfl, .inr (.inr (.inl ⟨rfl, .inl ⟨_, eD⟩⟩)), D, _, rfl, rfl, eD, fun v hv => ?_⟩
    have s1 := same_new (o := ValO v D) hv
    refine ⟨v, D, _, rfl, upd_same, s1 _ _ eD, fun r hr => ?_⟩
    have s2 := s1.trans (same_new (o := .lst ((lDict l).map (·.2))) hr)
    refine ⟨r, _, rfl, .inl ⟨SqL.of upd_same, fun t ht => fun x dx hx hd hne => ?_⟩⟩
    have s3 := s2.trans (same_new (o := .tup ((lDict l).map (·.2))) ht)
    have el : (lDict l).map (·.2) = l.map fun e => V.ref e.a := by
      unfold lDict
      rw [List.map_map]
      rfl
    have s4 : ∀ {Hz : Hp} {C : Addr}, Hz x = none → Hz dx = none → Same Hz (upd (upd Hz dx (.own x)) x (.ins C dx [])) := fun h1 h2 a o e => by
      rw [upd_ne (ne_of_none e h1), upd_ne (ne_of_none e h2)]
      exact e
    have s5 := s3.trans (s4 (C := He.ga K "State") hx hd)
    refine ⟨_, _, _, rfl, x, dx, f, t, l, ks, rfl, upd_same, rfl, hf.same s5, hfl, rfl, ?_, fun e he => LRow.same s5 (hat e he), hl, nz, h64, hk1, hk2, fun H' l' b hp eT hst => ⟨rfl, q _ x l' (s3.trans (same_made hx hd b)) hp eT hst⟩⟩
    rw [← el]
    exact s4 (C := He.ga K "State") hx hd _ _ upd_same
end
end Lv
set_option maxHeartbeats 4000000
namespace Lv
open PySem PySem.Spec PyProof.Rows L2
section
variable {P : Program} {w : World} {K : PySem.W.Frag} {mg : Str → Option Value} {base : Heap}
def sp_need (K : PySem.W.Frag) : Sp := sp2 fun v x0 H Q => ∃ (p dp s : Addr) (fo wy se : V) (kv : List (Key × V)) (z : Str), v = .ref p ∧ H p = some (.ins (He.ga K "Places") dp (fl_Places fo (.ref s) wy se)) ∧ H s = some (.dK kv) ∧ x0 = .str z ∧ nameOk z = true ∧ (valV kv (Sum.inr z : Key)).isSome = true ∧ ∀ H', Same H H' → Q .non H'
abbrev N_Places_need : List Str := ["self", "place"]
theorem sc_Places_need : FnScope N_Places_need ["self", "place"] (defScope s_Places_need) := ⟨rfl, rfl, rfl, by decide +kernel, rfl, by decide +kernel, by decide +kernel⟩
theorem ok_Places_need (T : Txt K mg) : MethOk P w K mg base 3 (He.ga K "Places") "_need" ["self", "place"] (sp_need K) := by
  refine meth_ok (q := "Places._need") T 59 T.cls_Places T.me_Places_need sc_Places_need (fun vs H Q E h => ?_) (fun f cdv A outer s H vs Q E hr h => ?_) (fun _ _ _ _ _ _ us hl => match us, hl with | [_, _], _ => rfl)
  · obtain ⟨x0, x1, rfl, _⟩ := h
    rfl
  · have nd := sc_Places_need.nd
    have hu := hu_of hr
    have hu64 := hu64_of hr
    have c_is_name := ok_is_name (P := P) (w := w) (base := base) T
    obtain ⟨x0, x1, rfl, h⟩ := h
    refine ⟨_, (pss_one (ps_if (PW.pt (pw_or (pt_not (pt_val (pe_callO c_is_name (hr.mono (by first | decide | omega)) (pa_cons (pv 1) pa_nil)))) (pw_or1 (pt_cmp (pc_dnotin hu (pv 1) (fldK (K := K) (pv 0) rfl)))))) (pss_one ps_never) pss_nil)), ?_⟩
    obtain ⟨p, dp, s, fo, wy, se, kv, z, rfl, o, es, rfl, ok, hv, q⟩ := h
    refine ⟨_, rfl, _, rfl, z, rfl, name1000 ok, fun H1 s1 => ⟨_, rfl, ?_⟩⟩
    rw [ok]
    have o1 := s1 _ _ o
    refine iteF ⟨_, rfl, _, rfl, _, _, _, _, _, rfl, o1, T.cls_Places, T.na_Places_sure, fl_Places_sure .., s, _, rfl, DGet.k (k := Sum.inr z) (s1 _ _ es), _, rfl, ?_⟩
    rw [hv]
    exact iteF (q _ s1)
def sp_need_message (K : PySem.W.Frag) : Sp := sp2 fun v x0 H Q => ∃ (p dp y : Addr) (fo su se : V) (kv : List (Key × V)) (n : Int), v = .ref p ∧ H p = some (.ins (He.ga K "Places") dp (fl_Places fo su (.ref y) se)) ∧ H y = some (.dK kv) ∧ x0 = .int n ∧ 1 ≤ n ∧ (valV kv (Sum.inl n : Key)).isSome = true ∧ Q .non H
abbrev N_Places_need_message : List Str := ["self", "number"]
theorem sc_Places_need_message : FnScope N_Places_need_message ["self", "number"] (defScope s_Places_need_message) := ⟨rfl, rfl, rfl, by decide +kernel, rfl, by decide +kernel, by decide +kernel⟩
theorem ok_Places_need_message (T : Txt K mg) : MethOk P w K mg base 2 (He.ga K "Places") "_need_message" ["self", "number"] (sp_need_message K) := by
  refine meth_ok (q := "Places._need_message") T 60 T.cls_Places T.me_Places_need_message sc_Places_need_message (fun vs H Q E h => ?_) (fun f cdv A outer s H vs Q E hr h => ?_) (fun _ _ _ _ _ _ us hl => match us, hl with | [_, _], _ => rfl)
  · obtain ⟨x0, x1, rfl, _⟩ := h
    rfl
  · have nd := sc_Places_need_message.nd
    have hu := hu_of hr
    have hu64 := hu64_of hr
    have c_is_whole2 := ok_is_whole2 (P := P) (w := w) (base := base) T
    obtain ⟨x0, x1, rfl, h⟩ := h
    refine ⟨_, (pss_one (ps_if (PW.pt (pw_or (pt_not (pt_val (pe_callO c_is_whole2 (hr.mono (by first | decide | omega)) (pa_cons (pv 1) (pa_cons pe_int pa_nil))))) (pw_or1 (pt_cmp (pc_dnotin hu (pv 1) (fldK (K := K) (pv 0) rfl)))))) (pss_one ps_never) pss_nil)), ?_⟩
    obtain ⟨p, dp, y, fo, su, se, kv, n, rfl, o, ey, rfl, h1, hv, q⟩ := h
    refine ⟨_, rfl, _, _, _, rfl, n, 1, rfl, rfl, .inl ⟨rfl, _, rfl, ?_⟩⟩
    rw [decide_eq_true h1]
    refine iteF ⟨_, rfl, _, rfl, _, _, _, _, _, rfl, o, T.cls_Places, T.na_Places_way, fl_Places_way .., y, _, rfl, DGet.k (k := Sum.inl n) ey, _, rfl, ?_⟩
    rw [hv]
    exact iteF q
end
end Lv
set_option maxHeartbeats 4000000
namespace Lv
open PySem PySem.Spec PyProof.Rows L2
section
variable {P : Program} {w : World} {K : PySem.W.Frag} {mg : Str → Option Value} {base : Heap}
def sp_place_names (K : PySem.W.Frag) : Sp := sp1 fun v H Q => ∃ (p dp s : Addr) (fo wy se : V) (kv : List (Key × V)) (ns : List Str), v = .ref p ∧ H p = some (.ins (He.ga K "Places") dp (fl_Places fo (.ref s) wy se)) ∧ H s = some (.dK kv) ∧ kv.map (·.1) = ns.map Sum.inr ∧ ns.length < 64 ∧
  ∀ H' r ys, Same H H' → ys.Perm ns → sortedS ys = true → H' r = some (.tup (ys.map V.str)) → Q (.ref r) H'
end
end Lv
set_option maxHeartbeats 4000000
namespace Lv
open PySem PySem.Spec PyProof.Rows L2
theorem places_no {v0 v1 v2 v3 : V} : (fl_Places v0 v1 v2 v3).lookup ("_need" : Str) = none ∧ (fl_Places v0 v1 v2 v3).lookup ("_need_message" : Str) = none ∧ (fl_Places v0 v1 v2 v3).lookup ("_told" : Str) = none ∧ (fl_Places v0 v1 v2 v3).lookup ("state" : Str) = none ∧ (fl_Places v0 v1 v2 v3).lookup ("together" : Str) = none :=
  ⟨fl_Places_no _ _ _ _ (by decide +kernel) (by decide +kernel) (by decide +kernel) (by decide +kernel), fl_Places_no _ _ _ _ (by decide +kernel) (by decide +kernel) (by decide +kernel) (by decide +kernel), fl_Places_no _ _ _ _ (by decide +kernel) (by decide +kernel) (by decide +kernel) (by decide +kernel), fl_Places_no _ _ _ _ (by decide +kernel) (by decide +kernel) (by decide +kernel) (by decide +kernel), fl_Places_no _ _ _ _ (by decide +kernel) (by decide +kernel) (by decide +kernel) (by decide +kernel)⟩
section
variable {P : Program} {w : World} {K : PySem.W.Frag} {mg : Str → Option Value} {base : Heap}
def sp_lose (K : PySem.W.Frag) : Sp := sp2 fun v x0 H Q => ∃ (p dp y : Addr) (fo su se : V) (kv : List (Key × V)) (n : Int), v = .ref p ∧ H p = some (.ins (He.ga K "Places") dp (fl_Places fo su (.ref y) se)) ∧ H y = some (.dK kv) ∧ x0 = .int n ∧ 1 ≤ n ∧ (valV kv (Sum.inl n : Key)).isSome = true ∧ Q .non (upd H y (.dK (dropK kv (Sum.inl n))))
abbrev N_Places_lose : List Str := ["self", "number"]
theorem sc_Places_lose : FnScope N_Places_lose ["self", "number"] (defScope s_Places_lose) := ⟨rfl, rfl, rfl, by decide +kernel, rfl, by decide +kernel, by decide +kernel⟩
theorem ok_Places_lose (T : Txt K mg) : MethOk P w K mg base 3 (He.ga K "Places") "lose" ["self", "number"] (sp_lose K) := by
  refine meth_ok (q := "Places.lose") T 65 T.cls_Places T.me_Places_lose sc_Places_lose (fun vs H Q E h => ?_) (fun f cdv A outer s H vs Q E hr h => ?_) (fun _ _ _ _ _ _ us hl => match us, hl with | [_, _], _ => rfl)
  · obtain ⟨x0, x1, rfl, _⟩ := h
    rfl
  · have nd := sc_Places_lose.nd
    have hu := hu_of hr
    have hu64 := hu64_of hr
    have c_Places_need_message := ok_Places_need_message (P := P) (w := w) (base := base) T
    obtain ⟨x0, x1, rfl, h⟩ := h
    refine ⟨_, (pss_cons (ps_expr (pe_methO c_Places_need_message (hr.mono (by first | decide | omega)) (pv 0) (pa_cons (pv 1) pa_nil))) (pss_one (ps_ddel (fldK (K := K) (pv 0) rfl) (pv 1)))), ?_⟩
    obtain ⟨p, dp, y, fo, su, se, kv, n, rfl, o, ey, rfl, h1, hv, q⟩ := h
    refine ⟨_, rfl, p, dp, _, rfl, o, places_no.2.1, _, rfl, _, _, rfl, p, dp, y, fo, su, se, kv, n, rfl, o, ey, rfl, h1, hv, ?_⟩
    exact ⟨_, rfl, _, _, _, _, _, rfl, o, T.cls_Places, T.na_Places_way, fl_Places_way .., _, rfl, y, kv, Sum.inl n, rfl, ey, rfl, hv, q⟩
end
end Lv
set_option maxHeartbeats 4000000
namespace Lv
open PySem PySem.Spec PyProof.Rows L2
section
variable {P : Program} {w : World} {K : PySem.W.Frag} {mg : Str → Option Value} {base : Heap}
def sp_state (K : PySem.W.Frag) : Sp := sp2 fun v x0 H Q => ∃ (p dp s t : Addr) (f : ForumA) (wy se : V) (kv kt : List (Key × V)) (z : Str) (D : Addr) (l : List LRow) (ks : List Str), v = .ref p ∧ H p = some (.ins (He.ga K "Places") dp (fl_Places (.ref f.x) (.ref s) wy se)) ∧ f.At K H ∧ f.fl.length ≤ 1000 ∧
  H s = some (.dK kv) ∧ x0 = .str z ∧ nameOk z = true ∧ valV kv (Sum.inr z : Key) = some (.ref t) ∧ H t = some (.dK kt) ∧ valV kt (Sum.inr z : Key) = some (.ref D) ∧ H D = some (.dK (lDict l)) ∧ (∀ e ∈ l, LRow.At K H e) ∧ l.length ≤ 1000 ∧ (l.map LRow.text).Nodup ∧
  ks.length < 64 ∧ (∀ e ∈ f.fl, e.n ∈ ks) ∧ (∀ e ∈ l, e.acc ∈ ks ∧ ∀ n ∈ aims e.s, n ∈ ks) ∧ ∀ H' y l', Same H H' → l'.Perm l → l' = texF l → StateAt K H' y f.x l' → Q (.ref y) H'
abbrev N_Places_state : List Str := ["self", "place"]
theorem sc_Places_state : FnScope N_Places_state ["self", "place"] (defScope s_Places_state) := ⟨rfl, rfl, rfl, by decide +kernel, rfl, by decide +kernel, by decide +kernel⟩
theorem ok_Places_state (T : Txt K mg) : MethOk P w K mg base 13 (He.ga K "Places") "state" ["self", "place"] (sp_state K) := by
  refine meth_ok (q := "Places.state") T 66 T.cls_Places T.me_Places_state sc_Places_state (fun vs H Q E h => ?_) (fun f cdv A outer s H vs Q E hr h => ?_) (fun _ _ _ _ _ _ us hl => match us, hl with | [_, _], _ => rfl)
  · obtain ⟨x0, x1, rfl, _⟩ := h
    rfl
  · have nd := sc_Places_state.nd
    have hu := hu_of hr
    have hu64 := hu64_of hr
    have c_Places_need := ok_Places_need (P := P) (w := w) (base := base) T
    have c_Places_told := ok_Places_told (P:=P) (w:=w) (base:=base) T
    obtain ⟨x0, x1, rfl, h⟩ := h
    refine ⟨_, (pss_cons (ps_expr (pe_methO c_Places_need (hr.mono (by first | decide | omega)) (pv 0) (pa_cons (pv 1) pa_nil))) (pss_one (ps_ret (pe_methO c_Places_told (hr.mono (by first | decide | omega)) (pv 0) (pa_cons (pe_dget hu (pe_dget hu (fldK (K := K) (pv 0) rfl) (pv 1) (fun _ _ => rfl)) (pv 1) (fun _ _ => rfl)) pa_nil))))), ?_⟩
    obtain ⟨p, dp, s, t, f, wy, se, kv, kt, z, D, l, ks, rfl, o, hf, hfl, es, rfl, ok, hv, et, ht, eD, hat, hl, nz, h64, hk1, hk2, q⟩ := h
    refine ⟨_, rfl, p, dp, _, rfl, o, places_no.1, _, rfl, _, _, rfl, p, dp, s, _, _, _, kv, z, rfl, o, es, rfl, ok, by rw [hv]; rfl, fun H1 s1 => ?_⟩
    have o1 := s1 _ _ o
    refine ⟨_, rfl, p, dp, _, rfl, o1, places_no.2.2.1, _, rfl, _, _, _, _, _, rfl, o1, T.cls_Places, T.na_Places_sure, fl_Places_sure .., _, rfl, s, .ref t, rfl, hv ▸ DGet.k (k := Sum.inr z) (s1 _ _ es), _, rfl, t, .ref D, rfl, ht ▸ DGet.k (k := Sum.inr z) (s1 _ _ et), ?_⟩
    exact ⟨_, _, rfl, p, dp, f, _, _, _, D, l, ks, rfl, o1, hf.same s1, hfl, rfl, s1 _ _ eD, fun e he => LRow.same s1 (hat e he), hl, nz, h64, hk1, hk2, fun H' y l' s' hp eT hst => q H' y l' (s1.trans s') hp eT hst⟩
end
end Lv
set_option maxHeartbeats 4000000
namespace Lv
open PySem PySem.Spec PyProof.Rows L2
section
variable {P : Program} {w : World} {K : PySem.W.Frag} {mg : Str → Option Value} {base : Heap}
def sp_write (K : PySem.W.Frag) : Sp := sp3 fun v x0 x1 H Q => ∃ (p dp s t : Addr) (fo wy se : V) (kv kt : List (Key × V)) (z : Str) (D : Addr) (kd : List (Key × V)) (e : LRow), v = .ref p ∧ H p = some (.ins (He.ga K "Places") dp (fl_Places fo (.ref s) wy se)) ∧
  H s = some (.dK kv) ∧ x0 = .str z ∧ nameOk z = true ∧ valV kv (Sum.inr z : Key) = some (.ref t) ∧ H t = some (.dK kt) ∧ valV kt (Sum.inr z : Key) = some (.ref D) ∧ H D = some (.dK kd) ∧ kd.length ≤ 1000 ∧ x1 = .ref e.a ∧ LRow.At K H e ∧
  ∀ H1, Same H H1 → Q .non (upd H1 D (.dK (putK kd (Sum.inr e.text) (.ref e.a))))
abbrev N_Places_write : List Str := ["self", "place", "letter"]
theorem sc_Places_write : FnScope N_Places_write ["self", "place", "letter"] (defScope s_Places_write) := ⟨rfl, rfl, rfl, by decide +kernel, rfl, by decide +kernel, by decide +kernel⟩
theorem ok_Places_write (T : Txt K mg) : MethOk P w K mg base 4 (He.ga K "Places") "write" ["self", "place", "letter"] (sp_write K) := by
  refine meth_ok (q := "Places.write") T 62 T.cls_Places T.me_Places_write sc_Places_write (fun vs H Q E h => ?_) (fun f cdv A outer s H vs Q E hr h => ?_) (fun _ _ _ _ _ _ us hl => match us, hl with | [_, _, _], _ => rfl)
  · obtain ⟨x0, x1, x2, rfl, _⟩ := h
    rfl
  · have nd := sc_Places_write.nd
    have hu := hu_of hr
    have hu64 := hu64_of hr
    have c_Places_need := ok_Places_need (P := P) (w := w) (base := base) T
    have c_letter_text := ok_letter_text (P := P) (w := w) (base := base) T
    obtain ⟨x0, x1, x2, rfl, h⟩ := h
    refine ⟨_, (pss_cons (ps_expr (pe_methO c_Places_need (hr.mono (by first | decide | omega)) (pv 0) (pa_cons (pv 1) pa_nil))) (pss_cons (ps_if (pt_not (pt_val (pe_callB (C8.call_isC (T.ins T.cls_Letter (by decide +kernel))) (by rfl) T.b_isinstance boot_isinstance (pa_cons (pv 2) (pa_cons (pe_gref T.g_Letter) pa_nil))))) (pss_one ps_never) pss_nil) (pss_one (ps_dput hu (pe_dget hu (pe_dget hu (fldK (K := K) (pv 0) rfl) (pv 1) (fun _ _ => rfl)) (pv 1) (fun _ _ => rfl)) (pe_callO c_letter_text (hr.mono (by first | decide | omega)) (pa_cons (pv 2) pa_nil)) (pv 2) rfl)))), ?_⟩
    obtain ⟨p, dp, s, t, fo, wy, se, kv, kt, z, D, kd, e, rfl, o, es, rfl, ok, hv, et, ht, eD, hl, rfl, hat, q⟩ := h
    have z1001 : (1001 : Nat) < sizeLine := by decide
    refine ⟨_, rfl, p, dp, _, rfl, o, places_no.1, _, rfl, _, _, rfl, p, dp, s, _, _, _, kv, z, rfl, o, es, rfl, ok, by rw [hv]; rfl, fun H1 s1 => ?_⟩
    have o1 := s1 _ _ o
    obtain ⟨⟨dl, sv, ol, tv⟩, ok1, ok2, ok3⟩ := LRow.same s1 hat
    refine ⟨_, rfl, _, _, _, rfl, ol, _, rfl, iteF ?_⟩
    refine ⟨_, rfl, _, rfl, _, _, _, _, _, rfl, o1, T.cls_Places, T.na_Places_sure, fl_Places_sure .., _, rfl, s, .ref t, rfl, hv ▸ DGet.k (k := Sum.inr z) (s1 _ _ es), _, rfl, t, .ref D, rfl, ht ▸ DGet.k (k := Sum.inr z) (s1 _ _ et), ?_⟩
    refine ⟨_, rfl, _, rfl, e.a, e.acc, e.num, e.s, rfl, ⟨dl, sv, ol, tv⟩, ok1, ok2, ok3, fun H2 s2 => ⟨D, _, rfl, .inl ⟨kd, Sum.inr e.text, (s1.trans s2) _ _ eD, rfl, by omega, rfl⟩, q _ (s1.trans s2)⟩⟩
end
end Lv
set_option maxHeartbeats 4000000
namespace Lv
open PySem PySem.Spec PyProof.Rows L2
def dtInt : Dt → Int
  | .int n => n
  | _ => 0
def sortI (ns : List Int) : List Int := (sortD (ns.map fun n => (V.int n, Dt.int n))).map fun b => dtInt b.2
theorem sortI_perm (ns : List Int) : (sortI ns).Perm ns := by
  have h := (sortD_perm (ns.map fun n => (V.int n, Dt.int n))).map fun b => dtInt b.2
  rw [List.map_map] at h
  have e : (ns.map ((fun b : V × Dt => dtInt b.2) ∘ fun n => (V.int n, Dt.int n))) = ns := by
    show ns.map (fun n => n) = ns
    exact List.map_id' ns
  rw [e] at h
  exact h
theorem sortI_fst (ns : List Int) : (sortD (ns.map fun n => (V.int n, Dt.int n))).map Prod.fst = (sortI ns).map V.int := by
  obtain ⟨L', hp, e⟩ := perm_map_inv (sortD_perm (ns.map fun n => (V.int n, Dt.int n))) ns rfl
  unfold sortI
  rw [e, List.map_map, List.map_map, List.map_map]
  rfl
theorem sortI_rule {H : Hp} {ns : List Int} : (∀ b ∈ ns.map fun n => (V.int n, Dt.int n), Tv H b.2 b.1) ∧ PySem.W.AllAlike ((ns.map fun n => (V.int n, Dt.int n)).map fun b => b.2.py) ∧ PySem.W.Sortable ((ns.map fun n => (V.int n, Dt.int n)).map fun b => b.2.py) ∧ ∀ b ∈ ns.map fun n => (V.int n, Dt.int n), b.2.py.depth ≤ 8 := by
  refine ⟨fun b hb => ?_, fun d hd d' hd' => ?_, .inr fun d hd => ?_, fun b hb => ?_⟩
  · obtain ⟨n, _, rfl⟩ := List.mem_map.mp hb
    rfl
  · rw [List.map_map] at hd hd'
    obtain ⟨n, _, rfl⟩ := List.mem_map.mp hd
    obtain ⟨m, _, rfl⟩ := List.mem_map.mp hd'
    rfl
  · rw [List.map_map] at hd
    obtain ⟨n, _, rfl⟩ := List.mem_map.mp hd
    exact ⟨(fun z => by cases z), (fun xs z => by cases z)⟩
  · obtain ⟨n, _, rfl⟩ := List.mem_map.mp hb
    show (0 : Nat) ≤ 8
    decide
end Lv
set_option maxHeartbeats 4000000
namespace Lv
open PySem PySem.Spec PyProof.Rows L2
structure Msg where
  n : Int
  fr : Str
  to : Str
  t : Addr
  kept : Addr
def Msg.At (H : Hp) (m : Msg) : Prop := H m.t = some (.tup [.str m.fr, .str m.to, .ref m.kept])
def mDict (ms : List Msg) : List (Key × V) := ms.map fun m => ((Sum.inl m.n : Key), V.ref m.t)
def sortM (ms : List Msg) : List (Int × Str × Str) := (sortI (ms.map (·.n))).map fun n => match ms.find? fun m => decide (m.n = n) with
  | some m => (n, m.fr, m.to)
  | none => (n, Str.empty, Str.empty)
def msgDt (x : Int × Str × Str) : Dt := .tup [.int x.1, .str x.2.1, .str x.2.2]
theorem mDict_val (ms : List Msg) (n : Int) : valV (mDict ms) (Sum.inl n : Key) = (ms.find? fun m => decide (m.n = n)).map fun m => V.ref m.t := by
  unfold valV mDict
  rw [List.find?_map, Option.map_map]
  have e : ((fun kv : Key × V => decide (kv.1 = Sum.inl n)) ∘ fun m : Msg => ((Sum.inl m.n : Key), V.ref m.t)) = fun m : Msg => decide (m.n = n) := by
    funext m
    simp [Function.comp]
  rw [e]
  rfl
theorem find_msg {ms : List Msg} {n : Int} (h : n ∈ ms.map (·.n)) : ∃ m ∈ ms, m.n = n ∧ ms.find? (fun m => decide (m.n = n)) = some m := by
  obtain ⟨m0, h0, e0⟩ := List.mem_map.mp h
  cases hf : ms.find? fun m => decide (m.n = n) with
  | none =>
    have := List.find?_eq_none.mp hf m0 h0
    exact absurd (decide_eq_true e0) this
  | some m =>
    have h2 : (fun m : Msg => decide (m.n = n)) m = true := List.find?_some (p := fun m : Msg => decide (m.n = n)) hf
    exact ⟨m, List.mem_of_find?_eq_some hf, of_decide_eq_true h2, rfl⟩
section
variable {P : Program} {w : World} {K : PySem.W.Frag} {mg : Str → Option Value} {base : Heap}
def sp_messages (K : PySem.W.Frag) : Sp := sp1 fun v H Q => ∃ (p dp y : Addr) (fo su se : V) (ms : List Msg), v = .ref p ∧ H p = some (.ins (He.ga K "Places") dp (fl_Places fo su (.ref y) se)) ∧ H y = some (.dK (mDict ms)) ∧ (∀ m ∈ ms, m.At H) ∧ ms.length ≤ 1000 ∧
  ∀ H' r, Same H H' → Tv H' (.tup ((sortM ms).map msgDt)) (.ref r) → Q (.ref r) H'
end
end Lv
set_option maxHeartbeats 4000000
namespace Lv
open PySem PySem.Spec PyProof.Rows L2
def putL (L : List LRow) (e : LRow) : List LRow := if e.text ∈ L.map LRow.text then L.map (fun x => if x.text = e.text then e else x) else L ++ [e]
def mergeL (L l : List LRow) : List LRow := l.foldl putL L
theorem lDict_any (L : List LRow) (z : Str) : ((lDict L).any fun kv => decide (kv.1 = (Sum.inr z : Key))) = decide (z ∈ L.map LRow.text) := by
  rw [valV_any, lDict_in]
theorem lDict_put (L : List LRow) (e : LRow) : lDict (putL L e) = putK (lDict L) (Sum.inr e.text) (.ref e.a) := by
  unfold putK putL
  rw [lDict_any]
  by_cases h : e.text ∈ L.map LRow.text
  · rw [if_pos h, if_pos (decide_eq_true h)]
    unfold lDict
    rw [List.map_map, List.map_map]
    refine List.map_congr_left fun x _ => ?_
    by_cases hx : x.text = e.text
    · simp [Function.comp, hx]
    · have h2 : ¬ (Sum.inr x.text : Key) = Sum.inr e.text := fun z => hx (Sum.inr.inj z)
      simp only [Function.comp, if_neg hx, if_neg h2]
  · rw [if_neg h, if_neg (by rw [decide_eq_false h]; exact Bool.false_ne_true)]
    unfold lDict
    rw [List.map_append]
    rfl
theorem lDict_merge (L l : List LRow) : lDict (mergeL L l) = mergeK (lDict L) (lDict l) := by
  induction l generalizing L with
  | nil => rfl
  | cons e l ih =>
    show lDict (mergeL (putL L e) l) = _
    rw [ih, lDict_put]
    rfl
theorem putL_texts (L : List LRow) (e : LRow) : (putL L e).map LRow.text = if e.text ∈ L.map LRow.text then L.map LRow.text else L.map LRow.text ++ [e.text] := by
  unfold putL
  by_cases h : e.text ∈ L.map LRow.text
  · rw [if_pos h, if_pos h, List.map_map]
    refine List.map_congr_left fun x _ => ?_
    by_cases hx : x.text = e.text
    · simp [Function.comp, hx]
    · simp [Function.comp, hx]
  · rw [if_neg h, if_neg h, List.map_append]
    rfl
theorem putL_nodup {L : List LRow} {e : LRow} (h : (L.map LRow.text).Nodup) : ((putL L e).map LRow.text).Nodup := by
  rw [putL_texts]
  by_cases q : e.text ∈ L.map LRow.text
  · rw [if_pos q]
    exact h
  · rw [if_neg q]
    exact nd_snoc h q
theorem putL_mem {L : List LRow} {e x : LRow} (h : x ∈ putL L e) : x ∈ L ∨ x = e := by
  unfold putL at h
  split at h
  · obtain ⟨y, hy, rfl⟩ := List.mem_map.mp h
    by_cases q : y.text = e.text
    · rw [if_pos q]
      exact .inr rfl
    · rw [if_neg q]
      exact .inl hy
  · rcases List.mem_append.mp h with h | h
    · exact .inl h
    · exact .inr (List.mem_singleton.mp h)
theorem putL_text (L : List LRow) (e : LRow) (t : Str) : t ∈ (putL L e).map LRow.text ↔ t ∈ L.map LRow.text ∨ t = e.text := by
  rw [putL_texts]
  by_cases q : e.text ∈ L.map LRow.text
  · rw [if_pos q]
    exact ⟨.inl, fun h => h.elim id fun z => z ▸ q⟩
  · rw [if_neg q, List.mem_append, List.mem_singleton]
theorem mergeL_nodup {l : List LRow} : ∀ {L : List LRow}, (L.map LRow.text).Nodup → ((mergeL L l).map LRow.text).Nodup := by
  induction l with
  | nil => intro L h; exact h
  | cons e l ih => intro L h; exact ih (putL_nodup h)
theorem mergeL_mem {x : LRow} {l : List LRow} : ∀ {L : List LRow}, x ∈ mergeL L l → x ∈ L ∨ x ∈ l := by
  induction l with
  | nil => intro L h; exact .inl h
  | cons e l ih =>
    intro L h
    rcases ih h with h | h
    · rcases putL_mem h with h | h
      · exact .inl h
      · exact .inr (h ▸ List.mem_cons_self)
    · exact .inr (List.mem_cons_of_mem _ h)
theorem mergeL_text (t : Str) {l : List LRow} : ∀ {L : List LRow}, t ∈ (mergeL L l).map LRow.text ↔ t ∈ L.map LRow.text ∨ t ∈ l.map LRow.text := by
  induction l with
  | nil =>
    intro L
    show t ∈ L.map LRow.text ↔ _
    simp
  | cons e l ih =>
    intro L
    show t ∈ (mergeL (putL L e) l).map LRow.text ↔ _
    rw [ih, putL_text, List.map_cons, List.mem_cons, or_assoc]
def tblD (ns : List Str) (g : Str → Addr) : List (Key × V) := ns.map fun z => ((Sum.inr z : Key), V.ref (g z))
theorem tblD_val {ns : List Str} {g : Str → Addr} {z : Str} (h : z ∈ ns) : valV (tblD ns g) (Sum.inr z : Key) = some (.ref (g z)) := by
  induction ns with
  | nil => cases h
  | cons y ns ih =>
    by_cases e : y = z
    · subst e
      exact valV_pos rfl
    · have e2 : ¬ (Sum.inr y : Key) = Sum.inr z := fun q => e (Sum.inr.inj q)
      rcases List.mem_cons.mp h with h | h
      · exact absurd h.symm e
      · rw [← ih h]
        exact valV_neg e2
def GoodL (K : PySem.W.Frag) (H : Hp) (U ks : List Str) (e : LRow) : Prop := LRow.At K H e ∧ e.text ∈ U ∧ e.acc ∈ ks ∧ ∀ n ∈ aims e.s, n ∈ ks
end Lv
set_option maxHeartbeats 4000000
namespace Lv
open PySem PySem.Spec PyProof.Rows L2
def Kp (H H' : Hp) : Prop := ∀ b C dx fs, H b = some (.ins C dx fs) → fs ≠ [] → (∀ v0 v1 v2 v3, fs ≠ fl_Places v0 v1 v2 v3) → H' b = some (.ins C dx fs)
theorem Kp.trans {H1 H2 H3 : Hp} (x : Kp H1 H2) (y : Kp H2 H3) : Kp H1 H3 := fun b C dx fs e n m => y b C dx fs (x b C dx fs e n m) n m
theorem kp_same {H H' : Hp} (s : Same H H') : Kp H H' := fun b C dx fs e _ _ => s b _ e
theorem not_pl {fs : List (Str × V)} {m : Str} {v : V} (h : fs.lookup m = some v) (hm : ¬ m = "_forum" ∧ ¬ m = "_sure" ∧ ¬ m = "_way" ∧ ¬ m = "_sent") : ∀ v0 v1 v2 v3, fs ≠ fl_Places v0 v1 v2 v3 := fun v0 v1 v2 v3 z => by
  rw [z, fl_Places_no v0 v1 v2 v3 hm.1 hm.2.1 hm.2.2.1 hm.2.2.2] at h
  cases h
section
variable {K : PySem.W.Frag} {H H' : Hp}
theorem LRow.keepP {e : LRow} (k : Kp H H') (t : Tk H H') (h : LRow.At K H e) : LRow.At K H' e := by
  obtain ⟨⟨dx, sv, o, tv⟩, ok⟩ := h
  exact ⟨⟨dx, sv, k _ _ _ _ o (ne_nil_of (fl_Letter_account ..)) (not_pl (fl_Letter_account ..) (by decide +kernel)), tv.keep t⟩, ok⟩
theorem FRow.keepP {e : FRow} (k : Kp H H') (h : FRow.At K H e) : FRow.At K H' e := by
  obtain ⟨dx, o⟩ := h
  exact ⟨dx, k _ _ _ _ o (ne_nil_of (fl_Founder_name ..)) (not_pl (fl_Founder_name ..) (by decide +kernel))⟩
theorem ForumA.At.keepP {f : ForumA} (k : Kp H H') (t : Tk H H') (h : f.At K H) : f.At K H' := by
  obtain ⟨⟨dx, o⟩, ⟨dl, la, na, ol, t1, t2⟩, h2, h3, h4, h5⟩ := h
  exact ⟨⟨dx, k _ _ _ _ o (ne_nil_of (fl_Forum_ladder ..)) (not_pl (fl_Forum_ladder ..) (by decide +kernel))⟩, ⟨dl, la, na, k _ _ _ _ ol (ne_nil_of (fl_Ladder_lends ..)) (not_pl (fl_Ladder_lends ..) (by decide +kernel)), t1.keep t, t2.keep t⟩, t _ _ h2, fun e he => FRow.keepP k (h3 e he), t _ _ h4, t _ _ h5⟩
theorem GoodL.keepP {U ks : List Str} {e : LRow} (k : Kp H H') (t : Tk H H') (h : GoodL K H U ks e) : GoodL K H' U ks e := ⟨LRow.keepP k t h.1, h.2⟩
end
def GoodS (K : PySem.W.Frag) (H : Hp) (U ks : List Str) (l : List LRow) : Prop := (∀ e ∈ l, GoodL K H U ks e) ∧ (l.map LRow.text).Nodup
theorem GoodS.len {K : PySem.W.Frag} {H : Hp} {U ks : List Str} {l : List LRow} (h : GoodS K H U ks l) : l.length ≤ U.length := by
  have := nd_len h.2 (m := U) fun x hx => by
    obtain ⟨e, he, rfl⟩ := List.mem_map.mp hx
    exact (h.1 e he).2.1
  rwa [List.length_map] at this
theorem GoodS.keepP {K : PySem.W.Frag} {H H' : Hp} {U ks : List Str} {l : List LRow} (k : Kp H H') (t : Tk H H') (h : GoodS K H U ks l) : GoodS K H' U ks l := ⟨fun e he => (h.1 e he).keepP k t, h.2⟩
theorem GoodS.put {K : PySem.W.Frag} {H : Hp} {U ks : List Str} {l : List LRow} {e : LRow} (h : GoodS K H U ks l) (he : GoodL K H U ks e) : GoodS K H U ks (putL l e) := ⟨fun x hx => by
  rcases putL_mem hx with hx | rfl
  · exact h.1 x hx
  · exact he, putL_nodup h.2⟩
theorem GoodS.merge {K : PySem.W.Frag} {H : Hp} {U ks : List Str} {l m : List LRow} (h : GoodS K H U ks l) (g : GoodS K H U ks m) : GoodS K H U ks (mergeL l m) := ⟨fun x hx => by
  rcases mergeL_mem hx with hx | hx
  · exact h.1 x hx
  · exact g.1 x hx, mergeL_nodup h.2⟩
structure PlA where
  p : Addr
  f : ForumA
  ns : List Str
  su : Addr
  way : Addr
  tb : Str → Addr
  inn : Str → Str → Addr
structure PMsg where
  m : Msg
  kd : Str → Addr
  kl : Str → List LRow
structure PlM where
  M : Str → Str → List LRow
  ms : List PMsg
  sent : Nat
def PlA.W (A : PlA) : Addr → Prop := fun b => b = A.p ∨ b = A.way ∨ ∃ i ∈ A.ns, ∃ j ∈ A.ns, b = A.inn i j
def PlA.Fix (A : PlA) (ms : List PMsg) : Addr → Prop := fun b => b = A.su ∨ (∃ i ∈ A.ns, b = A.tb i) ∨ ∃ g ∈ ms, b = g.m.kept ∨ ∃ j ∈ A.ns, b = g.kd j
def PlA.FP (A : PlA) (m : PlM) : Addr → Prop := fun b => A.W b ∨ A.Fix m.ms b
structure PlA.Ok (A : PlA) (U ks : List Str) : Prop where
  ns : placesOk A.ns
  fl : A.f.fl.length ≤ 1000
  u : U.length ≤ 1000
  k : ks.length < 64
  fk : ∀ e ∈ A.f.fl, e.n ∈ ks
  inj : ∀ i ∈ A.ns, ∀ j ∈ A.ns, ∀ i' ∈ A.ns, ∀ j' ∈ A.ns, A.inn i j = A.inn i' j' → i = i' ∧ j = j'
  wi : ∀ i ∈ A.ns, ∀ j ∈ A.ns, A.inn i j ≠ A.way
  sw : ¬ A.W A.su
  tw : ∀ i ∈ A.ns, ¬ A.W (A.tb i)
structure PMsg.At (K : PySem.W.Frag) (U ks : List Str) (H : Hp) (A : PlA) (sent : Nat) (g : PMsg) : Prop where
  m : g.m.At H
  kept : H g.m.kept = some (.dK (tblD A.ns g.kd))
  kw : ¬ A.W g.m.kept
  fr : g.m.fr ∈ A.ns
  to : g.m.to ∈ A.ns
  lo : 1 ≤ g.m.n
  hi : g.m.n ≤ sent
  kd : ∀ j ∈ A.ns, H (g.kd j) = some (.dK (lDict (g.kl j)))
  dw : ∀ j ∈ A.ns, ¬ A.W (g.kd j)
  good : ∀ j ∈ A.ns, GoodS K H U ks (g.kl j)
structure PlAt (K : PySem.W.Frag) (U ks : List Str) (H : Hp) (A : PlA) (m : PlM) : Prop where
  op : ∃ dp, H A.p = some (.ins (He.ga K "Places") dp (fl_Places (.ref A.f.x) (.ref A.su) (.ref A.way) (.int m.sent)))
  fo : A.f.At K H
  su : H A.su = some (.dK (tblD A.ns A.tb))
  tb : ∀ i ∈ A.ns, H (A.tb i) = some (.dK (tblD A.ns (A.inn i)))
  inn : ∀ i ∈ A.ns, ∀ j ∈ A.ns, H (A.inn i j) = some (.dK (lDict (m.M i j)))
  good : ∀ i ∈ A.ns, ∀ j ∈ A.ns, GoodS K H U ks (m.M i j)
  way : H A.way = some (.dK (mDict (m.ms.map (·.m))))
  ms : ∀ g ∈ m.ms, g.At K U ks H A m.sent
  ml : m.ms.length ≤ m.sent
section
variable {K : PySem.W.Frag} {U ks : List Str} {H H' : Hp} {A : PlA} {m : PlM} {S : Addr → Prop}
theorem PMsg.At.keep {g : PMsg} {sent : Nat} (k : Kp H H') (t : Tk H H') (hk : ∀ kv, H g.m.kept = some (.dK kv) → H' g.m.kept = some (.dK kv)) (hd : ∀ j ∈ A.ns, ∀ kv, H (g.kd j) = some (.dK kv) → H' (g.kd j) = some (.dK kv)) (h : g.At K U ks H A sent) : g.At K U ks H' A sent :=
  ⟨t _ _ h.m, hk _ h.kept, h.kw, h.fr, h.to, h.lo, h.hi, fun j hj => hd j hj _ (h.kd j hj), h.dw, fun j hj => (h.good j hj).keepP k t⟩
theorem PlAt.but (b : But S H H') (hS : ∀ b, S b → ¬ A.FP m b) (hn : ∀ b, S b → (∀ xs, H b ≠ some (.tup xs)) ∧ ∀ C dx fs, fs ≠ [] → H b ≠ some (.ins C dx fs)) (h : PlAt K U ks H A m) : PlAt K U ks H' A m := by
  have t : Tk H H' := but_tk b fun x hx => (hn x hx).1
  have k : Kp H H' := fun x C dx fs e n _ => b x _ e fun z => (hn x z).2 C dx fs n e
  have w : ∀ x, A.FP m x → ¬ S x := fun x hx z => hS x z hx
  obtain ⟨dp, o⟩ := h.op
  exact ⟨⟨dp, b _ _ o (w _ (.inl (.inl rfl)))⟩, h.fo.keepP k t, b _ _ h.su (w _ (.inr (.inl rfl))), fun i hi => b _ _ (h.tb i hi) (w _ (.inr (.inr (.inl ⟨i, hi, rfl⟩)))),
    fun i hi j hj => b _ _ (h.inn i hi j hj) (w _ (.inl (.inr (.inr ⟨i, hi, j, hj, rfl⟩)))), fun i hi j hj => (h.good i hi j hj).keepP k t, b _ _ h.way (w _ (.inl (.inr (.inl rfl)))),
    fun g hg => (h.ms g hg).keep k t (fun kv e => b _ _ e (w _ (.inr (.inr (.inr ⟨g, hg, .inl rfl⟩))))) fun j hj kv e => b _ _ e (w _ (.inr (.inr (.inr ⟨g, hg, .inr ⟨j, hj, rfl⟩⟩)))), h.ml⟩
theorem PlAt.same (s : Same H H') (h : PlAt K U ks H A m) : PlAt K U ks H' A m := h.but (S := fun _ => False) (but_same s) (fun _ z => z.elim) fun _ z => z.elim
theorem PlAt.wk (h : PlAt K U ks H A m) {b : Addr} (w : A.W b) : (∃ kv, H b = some (.dK kv)) ∨ ∃ C dx v0 v1 v2 v3, H b = some (.ins C dx (fl_Places v0 v1 v2 v3)) := by
  rcases w with rfl | rfl | ⟨i, hi, j, hj, rfl⟩
  · obtain ⟨dp, o⟩ := h.op
    exact .inr ⟨_, _, _, _, _, _, o⟩
  · exact .inl ⟨_, h.way⟩
  · exact .inl ⟨_, h.inn i hi j hj⟩
theorem PlAt.tk (h : PlAt K U ks H A m) (b : But A.W H H') : Tk H H' := but_tk b fun x hx xs e => by
  rcases h.wk hx with ⟨kv, z⟩ | ⟨C, dx, v0, v1, v2, v3, z⟩ <;> rw [z] at e <;> cases e
theorem PlAt.kp (h : PlAt K U ks H A m) (b : But A.W H H') : Kp H H' := fun x C dx fs e n q => b x _ e fun z => by
  rcases h.wk z with ⟨kv, z⟩ | ⟨C, dx, v0, v1, v2, v3, z⟩
  · rw [z] at e
    cases e
  · rw [z] at e
    exact q _ _ _ _ (HO.ins.inj (Option.some.inj e)).2.2.symm
theorem PlAt.step {M' : Str → Str → List LRow} {sent' : Nat} {ms' : List PMsg} (ok : A.Ok U ks) (b : But A.W H H') (h : PlAt K U ks H A m)
    (op : ∃ dp, H' A.p = some (.ins (He.ga K "Places") dp (fl_Places (.ref A.f.x) (.ref A.su) (.ref A.way) (.int sent')))) (inn : ∀ i ∈ A.ns, ∀ j ∈ A.ns, H' (A.inn i j) = some (.dK (lDict (M' i j)))) (good : ∀ i ∈ A.ns, ∀ j ∈ A.ns, GoodS K H' U ks (M' i j))
    (way : H' A.way = some (.dK (mDict (ms'.map (·.m))))) (ms : ∀ g ∈ ms', g ∈ m.ms ∨ g.At K U ks H' A sent') (hs : m.sent ≤ sent') (ml : ms'.length ≤ sent') : PlAt K U ks H' A ⟨M', ms', sent'⟩ :=
  ⟨op, h.fo.keepP (h.kp b) (h.tk b), b _ _ h.su ok.sw, fun i hi => b _ _ (h.tb i hi) (ok.tw i hi), inn, good, way, fun g hg => by
    rcases ms g hg with hg | hg
    · have q := h.ms g hg
      have q2 : g.At K U ks H' A m.sent := q.keep (h.kp b) (h.tk b) (fun kv e => b _ _ e q.kw) fun j hj kv e => b _ _ e (q.dw j hj)
      exact ⟨q2.m, q2.kept, q2.kw, q2.fr, q2.to, q2.lo, by have q3 : g.m.n ≤ (m.sent : Int) := q2.hi; show g.m.n ≤ (sent' : Int); omega, q2.kd, q2.dw, q2.good⟩
    · exact hg, ml⟩
end
def setM (M : Str → Str → List LRow) (i j : Str) (l : List LRow) : Str → Str → List LRow := fun i' j' => if i' = i ∧ j' = j then l else M i' j'
theorem PlAt.put {K : PySem.W.Frag} {U ks : List Str} {H : Hp} {A : PlA} {m : PlM} {i j : Str} {l : List LRow} (ok : A.Ok U ks) (h : PlAt K U ks H A m) (hi : i ∈ A.ns) (hj : j ∈ A.ns) (g : GoodS K H U ks l) :
    PlAt K U ks (upd H (A.inn i j) (.dK (lDict l))) A ⟨setM m.M i j l, m.ms, m.sent⟩ ∧ But A.W H (upd H (A.inn i j) (.dK (lDict l))) := by
  have b : But A.W H (upd H (A.inn i j) (.dK (lDict l))) := but_mut (.inr (.inr ⟨i, hi, j, hj, rfl⟩))
  have hp : A.p ≠ A.inn i j := fun z => by
    obtain ⟨dp, o⟩ := h.op
    rw [z, h.inn i hi j hj] at o
    cases o
  refine ⟨h.step ok b ?_ (fun i' hi' j' hj' => ?_) (fun i' hi' j' hj' => ?_) ?_ (fun g hg => .inl hg) (Nat.le_refl _) h.ml, b⟩
  · obtain ⟨dp, o⟩ := h.op
    exact ⟨dp, by rw [upd_ne hp]; exact o⟩
  · by_cases e : i' = i ∧ j' = j
    · obtain ⟨rfl, rfl⟩ := e
      rw [upd_same]
      unfold setM
      rw [if_pos ⟨rfl, rfl⟩]
    · unfold setM
      rw [if_neg e, upd_ne fun z => e (ok.inj _ hi' _ hj' _ hi _ hj z)]
      exact h.inn i' hi' j' hj'
  · unfold setM
    split
    · exact g.keepP (h.kp b) (h.tk b)
    · exact (h.good i' hi' j' hj').keepP (h.kp b) (h.tk b)
  · rw [upd_ne fun z => ok.wi i hi j hj z.symm]
    exact h.way
end Lv
set_option maxHeartbeats 4000000
namespace Lv
open PySem PySem.Spec PyProof.Rows L2
def SqA (K : PySem.W.Frag) (H : Hp) (a : Addr) (xs : List V) : Prop := SqL K H a xs ∨ SqT K H a xs
theorem _root_.L2.SqL.at {K : PySem.W.Frag} {H H' : Hp} {a : Addr} {xs : List V} (k : ∀ o, H a = some o → H' a = some o) (h : SqL K H a xs) : SqL K H' a xs := h.imp (fun z => z.imp (k _) fun ⟨o, e⟩ => ⟨o, k _ e⟩) fun z => z
theorem _root_.L2.SqT.at {K : PySem.W.Frag} {H H' : Hp} {a : Addr} {xs : List V} (k : ∀ o, H a = some o → H' a = some o) (h : SqT K H a xs) : SqT K H' a xs := h.imp (fun z => z.imp (k _) fun ⟨o, e⟩ => ⟨o, k _ e⟩) fun z => z
theorem SqA.at {K : PySem.W.Frag} {H H' : Hp} {a : Addr} {xs : List V} (k : ∀ o, H a = some o → H' a = some o) (h : SqA K H a xs) : SqA K H' a xs := h.imp (fun z => z.at k) fun z => z.at k
theorem SqA.same {K : PySem.W.Frag} {H H' : Hp} {a : Addr} {xs : List V} (s : Same H H') (h : SqA K H a xs) : SqA K H' a xs := h.at fun o e => s _ _ e
section
variable {X : Cx} {K : PySem.W.Frag} {tg l : Expr} {tl : TE}
theorem pi_seqW (hl : PE X l tl) (hK : X.K = K := by rfl) : PI X tg l (fun σ H R => tl σ H fun x H1 => ∃ a xs, x = .ref a ∧ SqA K H1 a xs ∧ ∀ (J : It) (G : Hp → Prop), Walk J xs.length G (fun i H v H' => H' = H ∧ xs[i]? = some v) → (∀ H', (∀ o, H1 a = some o → H' a = some o) → G H') → R J H1) := by
  subst hK
  refine ⟨fun pins s σ H R I h => ?_⟩
  refine thn (hl.run pins s σ H _ I h) fun v s1 ⟨x, H1, I1, r1, q1⟩ => ?_
  obtain ⟨a, xs, e, hq, q⟩ := q1
  subst e
  cases r1
  rcases hq with hq | hq
  · obtain ⟨its, rv, p, hz⟩ := I1.list hq
    refine wpAny_pyIter_list p.isList ?_
    refine ⟨s1.heap.objs.size, [s1.heap.objs.size], _, _, H1, rfl, I1.kept (t' := s1.toks) fun b o e => Heap.get?_push_of_some _ e, turn_list a _, ⟨_, Heap.get?_push_size _ rfl, rfl, rfl⟩, fun b hb => ?_, q _ _ walk_list fun H' k => hq.at k⟩
    have e : b = s1.heap.objs.size := by simpa using hb
    subst e
    exact I1.fpOk (Nat.le_refl _) (I1.hok.fresh (Nat.le_refl _))
  · obtain ⟨its, rv, p, hz⟩ := I1.tuple hq
    refine wpAny_pyIter_tuple (show s1.heap.IsTuple a its.toArray from p) ?_
    refine ⟨s1.heap.objs.size, [s1.heap.objs.size], _, _, H1, rfl, I1.kept (t' := s1.toks) fun b o e => Heap.get?_push_of_some _ e, turn_tuple a _, ⟨_, Heap.get?_push_size _ rfl, rfl, rfl⟩, fun b hb => ?_, q _ _ walk_tup fun H' k => hq.at k⟩
    have e : b = s1.heap.objs.size := by simpa using hb
    subst e
    exact I1.fpOk (Nat.le_refl _) (I1.hok.fresh (Nat.le_refl _))
end
theorem blkOk_in {N : List Str} {sc scope1 scope : Scope} {own : List (Str × Nat)} (h : blkC N (relS scope1 sc) scope own = true) : BlkOk N (relS scope1 sc) scope own := blkOk_by h
theorem same_free {H H' : Hp} {a : Addr} (s : Same H H') (h : H' a = none) : H a = none := by
  cases e : H a with
  | none => rfl
  | some o =>
    rw [s _ _ e] at h
    cases h
def setA {β : Type} (g : Str → β) (y : Str) (d : β) : Str → β := fun z => if z = y then d else g z
theorem setA_same {β : Type} {g : Str → β} {y : Str} {d : β} : setA g y d y = d := if_pos rfl
theorem setA_ne {β : Type} {g : Str → β} {y z : Str} {d : β} (h : z ≠ y) : setA g y d z = g z := if_neg h
theorem putF_cons (f g : Str) (v x : V) (r : List (Str × V)) : putF f v ((g, x) :: r) = if g = f then (g, v) :: r else (g, x) :: putF f v r := rfl
theorem putF_twice (f : Str) (x y : V) : ∀ fs : List (Str × V), putF f x (putF f y fs) = putF f x fs
  | [] => by
    show putF f x [(f, y)] = [(f, x)]
    rw [putF_cons, if_pos rfl]
  | (g, z) :: r => by
    rw [putF_cons f g y]
    by_cases h : g = f
    · rw [if_pos h, putF_cons, if_pos h, putF_cons, if_pos h]
    · rw [if_neg h, putF_cons, if_neg h, putF_cons, if_neg h, putF_twice f x y r]
section
variable {H H2 : Hp} {d : Addr} {od : Obj} {u : HO}
theorem frz_same (h : H d = some u) (s : Same (upd H d (.frz od u)) H2) : Same H (upd H2 d u) := fun b o e => by
  by_cases hb : b = d
  · subst hb
    rw [upd_same, ← h]
    exact e
  · rw [upd_ne hb]
    exact s _ _ (by rw [upd_ne hb]; exact e)
theorem frz_tk (h : H d = some u) (n : ∀ xs, u ≠ .tup xs) (s : Same (upd H d (.frz od u)) H2) : Tk H H2 := fun b xs e => s _ _ (by
  rw [upd_ne fun z => ?_]
  · exact e
  · rw [z, h] at e
    exact n _ (Option.some.inj e))
theorem frz_free {a : Addr} (h : H d = some u) (e : upd H d (.frz od u) a = none) : H a = none := by
  by_cases ha : a = d
  · rw [ha, upd_same] at e
    cases e
  · rwa [upd_ne ha] at e
end
theorem DGet.f {H : Hp} {a : Addr} {od : Obj} {kvs : List (Key × V)} {k : Key} (e : H a = some (.frz od (.dK kvs))) : DGet H a (kV k) (valV kvs k) := .inl ⟨kvs, k, .inr ⟨od, e⟩, rfl, rfl⟩
def tCut (t u : TS) : TS := fun D σ H => ∃ J : L2.St → Hp → Prop, t { D with nx := J } σ H ∧ ∀ σ' H', J σ' H' → u D σ' H'
theorem pss_cut {X : Cx} {st : Stmt} {rest : List Stmt} {t u : TS} (h1 : PS X st t) (h2 : PSs X rest u) : PSs X (st :: rest) (tCut t u) := by
  refine ⟨fun pins s σ H D I h => ?_⟩
  obtain ⟨J, h, k⟩ := h
  refine wpAny_execs_cons (thn (h1.run pins s σ H { D with nx := J } I h) fun f s1 q => ?_)
  cases f with
  | next =>
    obtain ⟨σ', H', I', q⟩ := q
    exact h2.run pins s1 σ' H' D I' (k _ _ q)
  | ret v => exact q
  | brk => exact q
  | cont => exact q
end Lv
set_option maxHeartbeats 4000000
namespace Lv
open PySem PySem.Spec PyProof.Rows L2
theorem nodup_take {α : Type} {l : List α} {i : Nat} {x : α} (h : l.Nodup) (hx : l[i]? = some x) : x ∉ l.take i := fun hm => by
  obtain ⟨hi, ez⟩ := List.getElem?_eq_some_iff.mp hx
  have h2 := h
  rw [← List.take_append_drop i l] at h2
  have hd : x ∈ l.drop i := by
    rw [← ez]
    exact List.mem_drop_iff_getElem.mpr ⟨0, by omega, by simp⟩
  exact (List.nodup_append.mp h2).2.2 x hm x hd rfl
theorem tblD_put {zs : List Str} {g : Str → Addr} {y : Str} {d : Addr} (h : y ∉ zs) : putK (tblD zs g) (Sum.inr y) (.ref d) = tblD (zs ++ [y]) (setA g y d) := by
  have e : tblD zs g = zs.map fun z => ((Sum.inr z : Key), V.ref (setA g y d z)) := by
    refine List.map_congr_left fun z hz => ?_
    have n : z ≠ y := fun e => h (by rw [← e]; exact hz)
    rw [setA_ne n]
  rw [e]
  have e2 : V.ref d = (fun z => V.ref (setA g y d z)) y := by
    show V.ref d = V.ref (setA g y d y)
    rw [setA_same]
  rw [e2]
  exact putK_map h
theorem mem_take_succ {α : Type} {l : List α} {i : Nat} {x y : α} (h : l[i]? = some x) : y ∈ l.take (i + 1) ↔ y ∈ l.take i ∨ y = x := by
  rw [take_snoc h, List.mem_append, List.mem_singleton]
section
variable {P : Program} {w : World} {K : PySem.W.Frag} {mg : Str → Option Value} {base : Heap} {U ks : List Str}
def sp_Places_init (K : PySem.W.Frag) : Sp := sp3 fun v x0 x1 H Q => ∃ (U ks : List Str) (x dx : Addr) (f : ForumA) (a : Addr) (ns : List Str), v = .ref x ∧ H x = some (.ins (He.ga K "Places") dx []) ∧ x0 = .ref f.x ∧ f.At K H ∧ f.fl.length ≤ 1000 ∧ x1 = .ref a ∧ (H a = some (.lst (ns.map V.str)) ∨ H a = some (.tup (ns.map V.str))) ∧
  placesOk ns ∧ U.length ≤ 1000 ∧ ks.length < 64 ∧ (∀ e ∈ f.fl, e.n ∈ ks) ∧
  ∀ H' (A : PlA), But1 x H H' → A.p = x → A.ns = ns → A.f = f → A.Ok U ks → PlAt K U ks H' A ⟨fun _ _ => [], [], 0⟩ → (∀ b, A.FP ⟨fun _ _ => [], [], 0⟩ b → b = x ∨ H b = none) → Q .non H'
abbrev N_Places_init : List Str := ["self", "forum", "names", "other", "one"]
theorem sc_Places_init : FnScope N_Places_init ["self", "forum", "names"] (defScope s_Places_init) := ⟨rfl, rfl, rfl, by decide +kernel, rfl, by decide +kernel, by decide +kernel⟩
theorem ok_Places_init (T : Txt K mg) : MakeOk P w K mg base 4 "Places" (He.ga K "Places") ["self", "forum", "names"] (sp_Places_init K) := by
  refine make_ok (q := "Places.__init__") T 58 T.g_Places T.mk_Places sc_Places_init (fun vs H Q E h => ?_) (fun f cdv A outer s H vs Q E hr h => ?_) (fun _ _ _ _ _ _ us hl => match us, hl with | [_, _, _], _ => rfl)
  · obtain ⟨x0, x1, x2, rfl, _⟩ := h
    rfl
  · have nd := sc_Places_init.nd
    have hu := hu_of hr
    have hu64 := hu64_of hr
    have c_are_places := ok_are_places (P := P) (w := w) (base := base) T
    obtain ⟨x0, x1, x2, rfl, h⟩ := h
    refine ⟨_, (pss_cons (ps_if (pt_not (pt_val (pe_callB (C8.call_isC (T.ins T.cls_Forum (by decide +kernel))) (by rfl) T.b_isinstance boot_isinstance (pa_cons (pv 1) (pa_cons (pe_gref T.g_Forum) pa_nil))))) (pss_one ps_never) pss_nil) (pss_cons (ps_if (pt_not (pt_val (pe_callO c_are_places (hr.mono (by first | decide | omega)) (pa_cons (pv 2) pa_nil)))) (pss_one ps_never) pss_nil) (pss_cons (ps_fld (pv 0) (pv 1) rfl) (pss_cons (ps_fld (pv 0) (pe_dc (own := [("one", 4)]) (g := (gName 4)) (tt := tYes) rfl nd (pi_seqW (K := K) (pv 2)) (blkOk_by (own := [("one", 4)]) (N := N_Places_init) (sc := defScope s_Places_init) (by decide +kernel)) (fun _ _ _ _ _ => (pg_name (i := 4) nd rfl (Or.inl rfl))) (fun _ _ _ _ _ => pts_nil) (fun _ _ _ _ _ => (pv 4)) (fun _ _ _ _ _ => (pe_dc (own := [("other", 3)]) (g := (gName 3)) (tt := tYes) rfl nd (pi_seqW (K := K) (pv 2)) (blkOk_in (own := [("other", 3)]) (N := N_Places_init) (sc := defScope s_Places_init) (by decide +kernel)) (fun _ _ _ _ _ => (pg_name (i := 3) nd rfl (Or.inl rfl))) (fun _ _ _ _ _ => pts_nil) (fun _ _ _ _ _ => (pv 3)) (fun _ _ _ _ _ => pe_dnewK)))) rfl) (pss_cons (ps_fld (pv 0) pe_dnewK rfl) (pss_one (ps_fld (pv 0) pe_int rfl))))))), ?_⟩
    obtain ⟨U, ks, x, dx, f, a, ns, rfl, ox, rfl, hf, hfl, rfl, e, ok, hU, hk, hfk, q⟩ := h
    have nz := ok.1
    obtain ⟨⟨dxf, of⟩, _⟩ := id hf
    refine ⟨_, rfl, _, _, _, rfl, of, _, rfl, iteF ?_⟩
    refine ⟨_, rfl, _, rfl, a, ns, rfl, e, ok, fun H1 s1 => ⟨_, rfl, iteF ?_⟩⟩
    have o1 := s1 _ _ ox
    refine ⟨_, rfl, _, rfl, x, _, dx, _, rfl, o1, T.cls_Places, T.na_Places_forum, (by decide), ?_⟩
    have b2 : But1 x H (upd H1 x (.ins (He.ga K "Places") dx (putF "_forum" (.ref f.x) []))) := but1_upd (but_same s1)
    have o2 : (upd H1 x (.ins (He.ga K "Places") dx (putF "_forum" (.ref f.x) []))) x = some (.ins (He.ga K "Places") dx (putF "_forum" (.ref f.x) [])) := upd_same
    generalize upd H1 x (.ins (He.ga K "Places") dx (putF "_forum" (.ref f.x) [])) = H2 at b2 o2 ⊢
    have sq2 : SqA K H2 a (ns.map V.str) := e.imp (fun z => SqL.of (b2 _ _ z fun q => by rw [q, ox] at z; cases z)) fun z => SqT.of (b2 _ _ z fun q => by rw [q, ox] at z; cases z)
    have z9 : (9 : Nat) < sizeLine := by decide
    have l8 := ok.2.2.1
    have free2 : ∀ b, H2 b = none → H b = none := fun b hb => b2.free hb fun z => by rw [z, o2] at hb; cases hb
    refine ⟨_, rfl, a, _, rfl, sq2, fun J G wk hG D hD => dc_rel wk (fun i kvs H' => ∃ (g : Str → Addr) (h : Str → Str → Addr), kvs = tblD (ns.take i) g ∧ (∀ z ∈ ns.take i, H' (g z) = some (.dK (tblD ns (h z))) ∧ H2 (g z) = none ∧ g z ≠ D) ∧
      (∀ z ∈ ns.take i, ∀ y ∈ ns, H' (h z y) = some (.dK []) ∧ H2 (h z y) = none ∧ h z y ≠ D) ∧ ∀ z ∈ ns.take i, ∀ y ∈ ns, ∀ z' ∈ ns.take i, ∀ y' ∈ ns, h z y = h z' y' → z = z' ∧ y = y') hD (fun H' s => hG H' fun o z => s _ _ z)
      ⟨fun _ => 0, fun _ _ => 0, rfl, by simp, by simp, by simp⟩ ?_ ?_⟩
    · rintro i v l H3 H4 hi hl s e3 ⟨g, h, rfl, hg, hh, hinj⟩ ⟨rfl, hx⟩
      obtain ⟨z, hz, rfl⟩ := getMap hx
      have hzt := nodup_take nz hz
      rw [List.length_map] at hi
      refine ⟨rfl, _, rfl, _, rfl, a, _, rfl, sq2.same s, fun J' G' wk' hG' D' hD' => dc_rel wk' (fun j kvs H' => ∃ h' : Str → Addr, kvs = tblD (ns.take j) h' ∧ (∀ y ∈ ns.take j, H' (h' y) = some (.dK []) ∧ H4 (h' y) = none ∧ h' y ≠ D') ∧ ∀ y ∈ ns.take j, ∀ y' ∈ ns.take j, h' y = h' y' → y = y') hD' (fun H' s' => hG' H' fun o z => s' _ _ z)
        ⟨fun _ => 0, rfl, by simp, by simp⟩ ?_ ?_⟩
      · rintro j v l' H5 H6 hj hl' s' e5 ⟨h', rfl, hh', hinj'⟩ ⟨rfl, hyv⟩
        obtain ⟨y, hy, rfl⟩ := getMap hyv
        have hyt := nodup_take nz hy
        rw [List.length_map] at hj
        refine ⟨rfl, _, rfl, fun d hd => dc_put (k := Sum.inr y) hD' (by omega) hl' (same_to s' hd) (same_new hd _ _ e5) ⟨setA h' y d, ?_, fun y1 hy1 => ?_, fun y1 hy1 y2 hy2 he => ?_⟩⟩
        · rw [take_snoc hy]
          exact tblD_put hyt
        · have dD : d ≠ D' := fun z => by rw [z, e5] at hd; cases hd
          by_cases ey : y1 = y
          · subst ey
            rw [setA_same]
            exact ⟨by rw [upd_ne dD]; exact upd_same, same_free s' hd, dD⟩
          · rw [setA_ne ey]
            obtain ⟨c1, c2, c3⟩ := hh' y1 (((mem_take_succ hy).mp hy1).resolve_right ey)
            exact ⟨by rw [upd_ne c3, upd_ne (ne_of_none c1 hd)]; exact c1, c2, c3⟩
        · have old : ∀ y3, y3 ∈ ns.take (j + 1) → y3 ≠ y → setA h' y d y3 = h' y3 ∧ y3 ∈ ns.take j := fun y3 h3 n => ⟨setA_ne n, ((mem_take_succ hy).mp h3).resolve_right n⟩
          by_cases e1 : y1 = y
          · by_cases e2 : y2 = y
            · rw [e1, e2]
            · obtain ⟨g2, m2⟩ := old y2 hy2 e2
              rw [e1, setA_same, g2] at he
              have c := (hh' y2 m2).1
              rw [← he, hd] at c
              cases c
          · obtain ⟨g1, m1⟩ := old y1 hy1 e1
            by_cases e2 : y2 = y
            · rw [e2, setA_same, g1] at he
              have c := (hh' y1 m1).1
              rw [he, hd] at c
              cases c
            · obtain ⟨g2, m2⟩ := old y2 hy2 e2
              rw [g1, g2] at he
              exact hinj' _ m1 _ m2 he
      · rintro l' H5 hl' s' e5 ⟨h', rfl, hh', hinj'⟩
        rw [List.length_map, List.take_length] at hh' hinj' e5
        have DD : D' ≠ D := fun z => by rw [z, e3] at hD'; cases hD'
        have oldz : ∀ z1, z1 ∈ ns.take (i + 1) → z1 ≠ z → z1 ∈ ns.take i := fun z1 h1 n => ((mem_take_succ hz).mp h1).resolve_right n
        have hD5 := s' _ _ e3
        refine dc_put (k := Sum.inr z) hD (by omega) hl (s.trans s') hD5 ⟨setA g z D', setA h z h', ?_, fun z1 hz1 => ?_, fun z1 hz1 y hy => ?_, fun z1 hz1 y1 hy1 z2 hz2 y2 hy2 he => ?_⟩
        · rw [take_snoc hz]
          exact tblD_put hzt
        · by_cases ez : z1 = z
          · subst ez
            rw [setA_same, setA_same]
            exact ⟨by rw [upd_ne DD]; exact e5, same_free s hD', DD⟩
          · rw [setA_ne ez, setA_ne ez]
            obtain ⟨c1, c2, c3⟩ := hg z1 (oldz z1 hz1 ez)
            exact ⟨by rw [upd_ne c3]; exact s' _ _ c1, c2, c3⟩
        · by_cases ez : z1 = z
          · rw [ez, setA_same]
            obtain ⟨c1, c2, c3⟩ := hh' y hy
            have nD : h' y ≠ D := fun z => by rw [z, e3] at c2; cases c2
            exact ⟨by rw [upd_ne nD]; exact c1, same_free s c2, nD⟩
          · rw [setA_ne ez]
            obtain ⟨c1, c2, c3⟩ := hh z1 (oldz z1 hz1 ez) y hy
            exact ⟨by rw [upd_ne c3]; exact s' _ _ c1, c2, c3⟩
        · have he : setA h z h' z1 y1 = setA h z h' z2 y2 := he
          have cross : ∀ z3 y3 y4, z3 ∈ ns.take (i + 1) → z3 ≠ z → y3 ∈ ns → y4 ∈ ns → h z3 y3 ≠ h' y4 := fun z3 y3 y4 m3 n3 my3 my4 e => by
            have c := (hh z3 (oldz z3 m3 n3) y3 my3).1
            rw [e, (hh' y4 my4).2.1] at c
            cases c
          by_cases e1 : z1 = z
          · by_cases e2 : z2 = z
            · rw [e1, e2, setA_same] at he
              exact ⟨e1.trans e2.symm, hinj' _ hy1 _ hy2 he⟩
            · rw [e1, setA_same, setA_ne e2] at he
              exact absurd he.symm (cross z2 y2 y1 hz2 e2 hy2 hy1)
          · by_cases e2 : z2 = z
            · rw [setA_ne e1, e2, setA_same] at he
              exact absurd he (cross z1 y1 y2 hz1 e1 hy1 hy2)
            · rw [setA_ne e1, setA_ne e2] at he
              exact hinj _ (oldz z1 hz1 e1) _ hy1 _ (oldz z2 hz2 e2) _ hy2 he
    · rintro l H3 hl s e3 ⟨g, h, rfl, hg, hh, hinj⟩
      rw [List.length_map, List.take_length] at hg hh hinj e3
      have o3 := s _ _ o2
      refine ⟨_, rfl, x, _, dx, _, rfl, o3, T.cls_Places, T.na_Places_sure, Nat.lt_of_le_of_lt (putF_len (Nat.le_refl _)) (by decide), ?_⟩
      refine fun d hd => ⟨_, rfl, x, _, dx, _, rfl, (by rw [upd_ne (ne_of_none upd_same hd)]; exact upd_same), T.cls_Places, T.na_Places_way, Nat.lt_of_le_of_lt (putF_len (putF_len (Nat.le_refl _))) (by decide), ?_⟩
      refine ⟨_, rfl, x, _, dx, _, rfl, upd_same, T.cls_Places, T.na_Places_sent, Nat.lt_of_le_of_lt (putF_len (putF_len (putF_len (Nat.le_refl _)))) (by decide), ?_⟩
      have dx_ne : d ≠ x := fun z => by rw [z, upd_same] at hd; cases hd
      rw [upd_ne dx_ne] at hd
      have hd2 : H2 d = none := same_free s hd
      have Dx : D ≠ x := fun z => by rw [z, o2] at hD; cases hD
      have gx : ∀ z ∈ ns, g z ≠ x := fun z hz q => by
        have c := (hg z hz).2.1
        rw [q, o2] at c
        cases c
      have hx : ∀ z ∈ ns, ∀ y ∈ ns, h z y ≠ x := fun z hz y hy q => by
        have c := (hh z hz y hy).2.1
        rw [q, o2] at c
        cases c
      have nod : ∀ {b : Addr} {o : HO}, H3 b = some o → b ≠ d := fun e => ne_of_none e hd
      have gh : ∀ z ∈ ns, ∀ i ∈ ns, ∀ j ∈ ns, g z ≠ h i j := fun z hz i hi j hj q => by
        have c := (hg z hz).1
        rw [q, (hh i hi j hj).1] at c
        have c := HO.dK.inj (Option.some.inj c)
        cases ns with
        | nil => cases hz
        | cons _ _ => cases c
      have at_ : ∀ {b : Addr} {o u v t : HO}, H3 b = some o → b ≠ x → upd (upd (upd (upd H3 x u) d (.dK [])) x v) x t b = some o := fun e n => by
        rw [upd_ne n, upd_ne n, upd_ne (nod e), upd_ne n]
        exact e
      have bA : ∀ {u v t : HO}, But1 x H (upd (upd (upd (upd H3 x u) d (.dK [])) x v) x t) := fun b o e n => at_ (s _ _ (b2 b o e n)) n
      refine q _ ⟨x, f, ns, D, d, g, h⟩ bA rfl rfl rfl ⟨ok, hfl, hU, hk, hfk, hinj, fun i hi j hj => nod (hh i hi j hj).1, ?_, fun i hi => ?_⟩ ⟨⟨dx, upd_same⟩, ?_, at_ e3 Dx, fun i hi => at_ (hg i hi).1 (gx i hi), fun i hi j hj => at_ (hh i hi j hj).1 (hx i hi j hj), fun i hi j hj => ⟨by simp, by simp⟩, by rw [upd_ne dx_ne, upd_ne dx_ne]; exact upd_same, by simp, by simp⟩ ?_
      · rintro (z | z | ⟨i, hi, j, hj, z⟩)
        · exact Dx z
        · exact nod e3 z
        · exact (hh i hi j hj).2.2 z.symm
      · rintro (z | z | ⟨i2, hi2, j, hj, z⟩)
        · exact gx i hi z
        · exact nod (hg i hi).1 z
        · exact gh i hi i2 hi2 j hj z
      · exact hf.keepN (ki_but ox bA) (tk_but ox bA)
      · rintro b ((rfl | rfl | ⟨i, hi, j, hj, rfl⟩) | rfl | ⟨i, hi, rfl⟩ | ⟨g, hg, _⟩)
        · exact .inl rfl
        · exact .inr (free2 _ hd2)
        · exact .inr (free2 _ (hh i hi j hj).2.1)
        · exact .inr (free2 _ hD)
        · exact .inr (free2 _ (hg i hi).2.1)
        · cases hg
end
end Lv
set_option maxHeartbeats 4000000
namespace Lv
open PySem PySem.Spec PyProof.Rows L2
theorem fl_Places_putS (v0 v1 v2 v3 v4 : V) : putF "_sent" v4 (fl_Places v0 v1 v2 v3) = fl_Places v0 v1 v2 v4 := by
  unfold fl_Places
  exact putF_twice ..
theorem fl_Places_len (v0 v1 v2 v3 : V) : (fl_Places v0 v1 v2 v3).length < 1000 := Nat.lt_of_le_of_lt (putF_len (putF_len (putF_len (putF_len (Nat.le_refl _))))) (by decide)
theorem tblD_get {ns : List Str} {g : Str → Addr} {i : Nat} {k : Key} {v : V} (h : (tblD ns g)[i]? = some (k, v)) : ∃ z, ns[i]? = some z ∧ k = Sum.inr z ∧ v = .ref (g z) := by
  unfold tblD at h
  rw [List.getElem?_map] at h
  cases e : ns[i]? with
  | none =>
    rw [e] at h
    cases h
  | some z =>
    rw [e] at h
    cases h
    exact ⟨z, rfl, rfl, rfl⟩
theorem upd_none {H : Hp} {a b : Addr} {o : HO} (e : upd H a o b = none) : H b = none := by
  by_cases h : b = a
  · rw [h, upd_same] at e
    cases e
  · rwa [upd_ne h] at e
section
variable {K : PySem.W.Frag} {U ks : List Str} {H H' : Hp} {A : PlA} {m : PlM}
theorem PlAt.occ (h : PlAt K U ks H A m) {b : Addr} (w : A.FP m b) : H b ≠ none := by
  intro e
  rcases w with (z | z | ⟨i, hi, j, hj, z⟩) | z | ⟨i, hi, z⟩ | ⟨g, hg, z | ⟨j, hj, z⟩⟩ <;> rw [z] at e
  · obtain ⟨dp, o⟩ := h.op
    rw [o] at e
    cases e
  · rw [h.way] at e
    cases e
  · rw [h.inn i hi j hj] at e
    cases e
  · rw [h.su] at e
    cases e
  · rw [h.tb i hi] at e
    cases e
  · rw [(h.ms g hg).kept] at e
    cases e
  · rw [(h.ms g hg).kd j hj] at e
    cases e
theorem PlAt.p_ne (h : PlAt K U ks H A m) {b : Addr} {kv : List (Key × V)} (e : H b = some (.dK kv)) : A.p ≠ b := fun z => by
  obtain ⟨dp, o⟩ := h.op
  rw [z, e] at o
  cases o
end
section
variable {P : Program} {w : World} {K : PySem.W.Frag} {mg : Str → Option Value} {base : Heap} {U ks : List Str}
def sp_send (K : PySem.W.Frag) : Sp := sp3 fun v x0 x1 H Q => ∃ (U ks : List Str) (A : PlA) (m : PlM) (i j : Str), v = .ref A.p ∧ A.Ok U ks ∧ PlAt K U ks H A m ∧ x0 = .str i ∧ i ∈ A.ns ∧ x1 = .str j ∧ j ∈ A.ns ∧ m.sent ≤ 1000 ∧
  ∀ (H' : Hp) (g : PMsg), But A.W H H' → PlAt K U ks H' A ⟨m.M, m.ms ++ [g], m.sent + 1⟩ → g.m.n = m.sent + 1 → g.m.fr = i → g.m.to = j → (∀ z ∈ A.ns, g.kl z = m.M i z) → (∀ b, A.FP ⟨m.M, m.ms ++ [g], m.sent + 1⟩ b → A.FP m b ∨ H b = none) → Q (.int ((m.sent + 1 : Nat) : Int)) H'
abbrev N_Places_send : List Str := ["self", "place", "other", "table", "name"]
theorem sc_Places_send : FnScope N_Places_send ["self", "place", "other"] (defScope s_Places_send) := ⟨rfl, rfl, rfl, by decide +kernel, rfl, by decide +kernel, by decide +kernel⟩
theorem ok_Places_send (T : Txt K mg) : MethOk P w K mg base 4 (He.ga K "Places") "send" ["self", "place", "other"] (sp_send K) := by
  refine meth_ok (q := "Places.send") T 63 T.cls_Places T.me_Places_send sc_Places_send (fun vs H Q E h => ?_) (fun f cdv A outer s H vs Q E hr h => ?_) (fun _ _ _ _ _ _ us hl => match us, hl with | [_, _, _], _ => rfl)
  · obtain ⟨x0, x1, x2, rfl, _⟩ := h
    rfl
  · have nd := sc_Places_send.nd
    have hu := hu_of hr
    have hu64 := hu64_of hr
    have c_Places_need := ok_Places_need (P := P) (w := w) (base := base) T
    obtain ⟨x0, x1, x2, rfl, h⟩ := h
    refine ⟨_, (pss_cons (ps_expr (pe_methO c_Places_need (hr.mono (by first | decide | omega)) (pv 0) (pa_cons (pv 1) pa_nil))) (pss_cons (ps_expr (pe_methO c_Places_need (hr.mono (by first | decide | omega)) (pv 0) (pa_cons (pv 2) pa_nil))) (pss_cons (ps_fldaug (pv 0) pe_int in_add) (pss_cons (ps_set (i := 3) nd rfl (Or.inr rfl) (pe_dget hu (fldK (K := K) (pv 0) rfl) (pv 1) (fun _ _ => rfl))) (pss_cons (ps_dput hu (fldK (K := K) (pv 0) rfl) (fldK (K := K) (pv 0) rfl) (pe_tup (pa_cons (pv 1) (pa_cons (pv 2) (pa_cons (pe_lock (pe_dc (own := [("name", 4)]) (g := (gName 4)) (tt := tYes) rfl nd (pi_keys (pv 3)) (blkOk_by (own := [("name", 4)]) (N := N_Places_send) (sc := defScope s_Places_send) (by decide +kernel)) (fun _ _ _ _ _ => (pg_name (i := 4) nd rfl (Or.inl rfl))) (fun _ _ _ _ _ => pts_nil) (fun _ _ _ _ _ => (pv 4)) (fun _ _ _ _ _ => (pe_callTy call_dictD (by rfl) T.b_dict boot_dict (pa_cons (pe_dget hu (pv 3) (pv 4) (fun _ _ => rfl)) pa_nil))))) pa_nil)))) rfl) (pss_one (ps_ret (fldK (K := K) (pv 0) rfl)))))))), ?_⟩
    obtain ⟨U, ks, A1, m, i, j, rfl, ok, at0, rfl, hi, rfl, hj, hm, q⟩ := h
    obtain ⟨dp, o⟩ := at0.op
    have nok : ∀ z ∈ A1.ns, nameOk z = true := ok.ns.2.2.2
    refine ⟨_, rfl, A1.p, dp, _, rfl, o, places_no.1, _, rfl, _, _, rfl, A1.p, dp, A1.su, _, _, _, _, i, rfl, o, at0.su, rfl, nok i hi, by rw [tblD_val hi]; rfl, fun H1 s1 => ?_⟩
    have o1 := s1 _ _ o
    refine ⟨_, rfl, A1.p, dp, _, rfl, o1, places_no.1, _, rfl, _, _, rfl, A1.p, dp, A1.su, _, _, _, _, j, rfl, o1, s1 _ _ at0.su, rfl, nok j hj, by rw [tblD_val hj]; rfl, fun H2 s2 => ?_⟩
    have s12 := s1.trans s2
    have at2 := at0.same s12
    have o2 := s12 _ _ o
    refine ⟨_, rfl, A1.p, _, dp, _, _, rfl, o2, T.cls_Places, T.na_Places_sent, fl_Places_sent .. , _, _, rfl, rfl, dp, _, o2, fl_Places_len .., ?_⟩
    rw [fl_Places_putS]
    have b3 : But A1.W H2 (upd H2 A1.p (.ins (He.ga K "Places") dp (fl_Places (.ref A1.f.x) (.ref A1.su) (.ref A1.way) (.int (m.sent + 1))))) := but_mut (.inl rfl)
    have o3 : (upd H2 A1.p (.ins (He.ga K "Places") dp (fl_Places (.ref A1.f.x) (.ref A1.su) (.ref A1.way) (.int (m.sent + 1))))) A1.p = some (.ins (He.ga K "Places") dp (fl_Places (.ref A1.f.x) (.ref A1.su) (.ref A1.way) (.int (m.sent + 1)))) := upd_same
    have d3 : ∀ {b kv}, H2 b = some (.dK kv) → (upd H2 A1.p (.ins (He.ga K "Places") dp (fl_Places (.ref A1.f.x) (.ref A1.su) (.ref A1.way) (.int (m.sent + 1))))) b = some (.dK kv) := fun e => by
      rw [upd_ne fun z => at2.p_ne e z.symm]
      exact e
    have w3 : ∀ b, A1.FP m b → (upd H2 A1.p (.ins (He.ga K "Places") dp (fl_Places (.ref A1.f.x) (.ref A1.su) (.ref A1.way) (.int (m.sent + 1))))) b ≠ none := fun b hb e => at2.occ hb (upd_none e)
    generalize upd H2 A1.p (.ins (He.ga K "Places") dp (fl_Places (.ref A1.f.x) (.ref A1.su) (.ref A1.way) (.int (m.sent + 1)))) = H3 at b3 o3 d3 w3 ⊢
    refine ⟨_, rfl, _, _, _, _, _, rfl, o3, T.cls_Places, T.na_Places_sure, fl_Places_sure .., _, rfl, A1.su, .ref (A1.tb i), rfl, tblD_val (g := A1.tb) hi ▸ DGet.k (k := Sum.inr i) (d3 at2.su), ?_⟩
    have t3 := d3 (at2.tb i hi)
    have z9 : (9 : Nat) < sizeLine := by decide
    have l8 := ok.ns.2.2.1
    refine ⟨_, rfl, _, rfl, A1.tb i, _, t3, trivial, fun od => ⟨_, rfl, A1.tb i, od, rfl, .inl ⟨_, upd_same, fun D hD => dc_rel walk_keys (fun n kvs H' => ∃ kd : Str → Addr, kvs = tblD (A1.ns.take n) kd ∧ ∀ z ∈ A1.ns.take n, H' (kd z) = some (.dK (lDict (m.M i z))) ∧ H3 (kd z) = none ∧ kd z ≠ D) hD (fun H' s => s _ _ upd_same) ⟨fun _ => 0, rfl, by simp⟩ ?_ ?_⟩⟩⟩
    · rintro n v l H4 H5 hn hl s e4 ⟨kd, rfl, hkd⟩ ⟨rfl, k, u, hk, rfl⟩
      obtain ⟨z, hz, rfl, rfl⟩ := tblD_get hk
      have hzm := List.mem_of_getElem? hz
      have hzt := nodup_take ok.ns.1 hz
      have hn8 : n < 8 := by
        have := (List.getElem?_eq_some_iff.mp hz).1
        omega
      have ne : A1.inn i z ≠ A1.tb i := fun q => ok.tw i hi (.inr (.inr ⟨i, hi, z, hzm, q.symm⟩))
      have e5 : H5 (A1.inn i z) = some (.dK (lDict (m.M i z))) := s _ _ (by rw [upd_ne ne]; exact d3 (at2.inn i hi z hzm))
      refine ⟨rfl, _, rfl, _, rfl, _, rfl, A1.tb i, .ref (A1.inn i z), rfl, tblD_val (g := A1.inn i) hzm ▸ DGet.f (k := Sum.inr z) (s _ _ upd_same), A1.inn i z, _, rfl, .inl e5, fun d hd => dc_put (k := Sum.inr z) hD (by omega) hl (same_to s hd) (same_new hd _ _ e4) ⟨setA kd z d, ?_, fun y hy => ?_⟩⟩
      · rw [take_snoc hz]
        exact tblD_put hzt
      · have dD : d ≠ D := fun q => by rw [q, e4] at hd; cases hd
        by_cases ey : y = z
        · subst ey
          rw [setA_same]
          exact ⟨by rw [upd_ne dD]; exact upd_same, frz_free t3 (same_free s hd), dD⟩
        · rw [setA_ne ey]
          obtain ⟨c1, c2, c3⟩ := hkd y (((mem_take_succ hz).mp hy).resolve_right ey)
          exact ⟨by rw [upd_ne c3, upd_ne (ne_of_none c1 hd)]; exact c1, c2, c3⟩
    · rintro l H4 hl s e4 ⟨kd, rfl, hkd⟩
      have tl : List.take (tblD A1.ns (A1.inn i)).length A1.ns = A1.ns := List.take_of_length_le (by unfold tblD; rw [List.length_map]; exact Nat.le_refl _)
      rw [tl] at hkd e4
      refine ⟨s _ _ upd_same, by show 3 ≤ sizeLine; decide, fun t ht => ?_⟩
      have s5 := frz_same t3 s
      have Dtb : D ≠ A1.tb i := fun z => by rw [z, upd_same] at hD; cases hD
      have D3 : H3 D = none := frz_free t3 hD
      have s6 := s5.trans (same_new (o := .tup [.str i, .str j, .ref D]) ht)
      have o6 := s6 _ _ o3
      have way6 := s6 _ _ (d3 at2.way)
      have lms : (mDict (m.ms.map (·.m))).length ≤ 1000 := by
        unfold mDict
        rw [List.length_map, List.length_map]
        exact Nat.le_trans at0.ml hm
      have fresh : (Sum.inl ((m.sent : Int) + 1) : Key) ∉ (mDict (m.ms.map (·.m))).map (·.1) := fun hx => by
        obtain ⟨kv, h1, h2⟩ := List.mem_map.mp hx
        obtain ⟨g, h3, rfl⟩ := List.mem_map.mp h1
        obtain ⟨g', h4, rfl⟩ := List.mem_map.mp h3
        have e := Sum.inl.inj h2
        have := (at0.ms g' h4).hi
        omega
      refine ⟨_, rfl, _, _, _, _, _, rfl, o6, T.cls_Places, T.na_Places_way, fl_Places_way .., _, rfl, _, _, _, _, _, rfl, o6, T.cls_Places, T.na_Places_sent, fl_Places_sent .., A1.way, _, rfl, DPut.k (k := Sum.inl ((m.sent : Int) + 1)) way6 (Nat.lt_of_le_of_lt lms (by decide)), ?_⟩
      rw [putK_app fresh]
      have b4 : But A1.W H (upd (upd (upd H4 (A1.tb i) (.dK (tblD A1.ns (A1.inn i)))) t (.tup [.str i, .str j, .ref D])) A1.way (.dK (mDict (m.ms.map (·.m)) ++ [(Sum.inl ((m.sent : Int) + 1), .ref t)]))) := (((but_same s12).trans b3).trans (but_same s6)).upd (.inr (.inl rfl))
      have pw : A1.p ≠ A1.way := at0.p_ne at0.way
      have o7 : (upd (upd (upd H4 (A1.tb i) (.dK (tblD A1.ns (A1.inn i)))) t (.tup [.str i, .str j, .ref D])) A1.way (.dK (mDict (m.ms.map (·.m)) ++ [(Sum.inl ((m.sent : Int) + 1), .ref t)]))) A1.p = some (.ins (He.ga K "Places") dp (fl_Places (.ref A1.f.x) (.ref A1.su) (.ref A1.way) (.int (m.sent + 1)))) := by
        rw [upd_ne pw]
        exact o6
      have nW : ∀ b, H3 b = none → ¬ A1.W b := fun b e z => w3 b (.inl z) e
      have free0 : ∀ b, H3 b = none → H b = none := fun b e => same_free s12 (b3.free e (nW b e))
      have fr7 : ∀ {b o}, H4 b = some o → b ≠ A1.tb i → b ≠ A1.way → (upd (upd (upd H4 (A1.tb i) (.dK (tblD A1.ns (A1.inn i)))) t (.tup [.str i, .str j, .ref D])) A1.way (.dK (mDict (m.ms.map (·.m)) ++ [(Sum.inl ((m.sent : Int) + 1), .ref t)]))) b = some o := fun e n1 n2 => by
        rw [upd_ne n2, upd_ne (ne_of_none (by rw [upd_ne n1]; exact e) ht), upd_ne n1]
        exact e
      have wD : D ≠ A1.way := fun z => nW D D3 (.inr (.inl z))
      have kdw : ∀ z ∈ A1.ns, kd z ≠ A1.way := fun z hz e => nW _ (hkd z hz).2.1 (.inr (.inl e))
      have kdt : ∀ z ∈ A1.ns, kd z ≠ A1.tb i := fun z hz e => by
        have c := (hkd z hz).2.1
        rw [e, t3] at c
        cases c
      refine ⟨_, rfl, _, _, _, _, _, rfl, o7, T.cls_Places, T.na_Places_sent, fl_Places_sent .., ?_⟩
      refine q _ ⟨⟨(m.sent : Int) + 1, i, j, t, D⟩, kd, fun z => m.M i z⟩ b4 (at0.step ok b4 ⟨dp, o7⟩ (fun i' hi' j' hj' => ?_) (fun i' hi' j' hj' => (at0.good i' hi' j' hj').keepP (at0.kp b4) (at0.tk b4)) ?_ (fun g hg => ?_) (Nat.le_succ _) (by rw [List.length_append]; have := at0.ml; simp; omega)) rfl rfl rfl (fun z _ => rfl) ?_
      · rw [upd_ne (ok.wi i' hi' j' hj')]
        exact s6 _ _ (d3 (at2.inn i' hi' j' hj'))
      · rw [upd_same, List.map_append]
        unfold mDict
        rw [List.map_append]
        rfl
      · rcases List.mem_append.mp hg with hg | hg
        · exact .inl hg
        · obtain rfl := List.mem_singleton.mp hg
          refine .inr ⟨?_, fr7 e4 Dtb wD, nW D D3, hi, hj, by show (1 : Int) ≤ m.sent + 1; omega, by show (m.sent : Int) + 1 ≤ ((m.sent + 1 : Nat) : Int); omega, fun z hz => fr7 (hkd z hz).1 (kdt z hz) (kdw z hz), fun z hz => nW _ (hkd z hz).2.1, fun z hz => (at0.good i hi z hz).keepP (at0.kp b4) (at0.tk b4)⟩
          show (upd _ _ _) t = some (.tup [.str i, .str j, .ref D])
          rw [upd_ne fun z => ?_]
          · exact upd_same
          · rw [z, s5 _ _ (d3 at2.way)] at ht
            cases ht
      · rintro b (hb | rfl | ⟨i', hi', rfl⟩ | ⟨g, hg, hb⟩)
        · exact .inl (.inl hb)
        · exact .inl (.inr (.inl rfl))
        · exact .inl (.inr (.inr (.inl ⟨i', hi', rfl⟩)))
        · rcases List.mem_append.mp hg with hg | hg
          · exact .inl (.inr (.inr (.inr ⟨g, hg, hb⟩)))
          · obtain rfl := List.mem_singleton.mp hg
            rcases hb with hb | ⟨z, hz, hb⟩
            · exact .inr (by rw [hb]; exact free0 _ D3)
            · exact .inr (by rw [hb]; exact free0 _ (hkd z hz).2.1)
end
end Lv
set_option maxHeartbeats 4000000
namespace Lv
open PySem PySem.Spec PyProof.Rows L2
def deliverM (M : Str → Str → List LRow) (g : PMsg) : Str → Str → List LRow := fun i j => if i = g.m.to then (if j = g.m.to then mergeL (mergeL (M i j) (g.kl j)) (g.kl g.m.fr) else mergeL (M i j) (g.kl j)) else M i j
def partM (M : Str → Str → List LRow) (g : PMsg) (zs : List Str) : Str → Str → List LRow := fun i j => if i = g.m.to ∧ j ∈ zs then mergeL (M i j) (g.kl j) else M i j
theorem PlAt.congr {K : PySem.W.Frag} {U ks : List Str} {H : Hp} {A : PlA} {M M' : Str → Str → List LRow} {ms : List PMsg} {sent : Nat} (h : PlAt K U ks H A ⟨M, ms, sent⟩) (e : ∀ i ∈ A.ns, ∀ j ∈ A.ns, M i j = M' i j) : PlAt K U ks H A ⟨M', ms, sent⟩ :=
  ⟨h.op, h.fo, h.su, h.tb, fun i hi j hj => by show H _ = some (.dK (lDict (M' i j))); rw [← e i hi j hj]; exact h.inn i hi j hj, fun i hi j hj => by show GoodS K H U ks (M' i j); rw [← e i hi j hj]; exact h.good i hi j hj, h.way, h.ms, h.ml⟩
theorem way_val {ms : List PMsg} {n : Int} {g : PMsg} (h : ms.find? (fun g => decide (g.m.n = n)) = some g) : valV (mDict (ms.map (·.m))) (Sum.inl n : Key) = some (.ref g.m.t) := by
  rw [mDict_val, List.find?_map]
  have e : ((fun m : Msg => decide (m.n = n)) ∘ fun g : PMsg => g.m) = fun g : PMsg => decide (g.m.n = n) := rfl
  rw [e, h]
  rfl
theorem way_drop (ms : List PMsg) (n : Int) : dropK (mDict (ms.map (·.m))) (Sum.inl n : Key) = mDict ((ms.filter fun g => decide (g.m.n ≠ n)).map (·.m)) := by
  unfold dropK mDict
  rw [List.map_map, List.map_map, List.filter_map]
  congr 1
  refine List.filter_congr fun g _ => ?_
  simp [Function.comp]
section
variable {P : Program} {w : World} {K : PySem.W.Frag} {mg : Str → Option Value} {base : Heap} {U ks : List Str}
def sp_deliver (K : PySem.W.Frag) : Sp := sp2 fun v x0 H Q => ∃ (U ks : List Str) (A : PlA) (m : PlM) (n : Int) (g : PMsg), v = .ref A.p ∧ A.Ok U ks ∧ PlAt K U ks H A m ∧ x0 = .int n ∧ m.ms.find? (fun g => decide (g.m.n = n)) = some g ∧
  ∀ (H' : Hp), But A.W H H' → PlAt K U ks H' A ⟨deliverM m.M g, m.ms, m.sent⟩ → Q .non H'
abbrev N_Places_deliver : List Str := ["self", "number", "place", "other", "kept", "table", "name"]
theorem sc_Places_deliver : FnScope N_Places_deliver ["self", "number"] (defScope s_Places_deliver) := ⟨rfl, rfl, rfl, by decide +kernel, rfl, by decide +kernel, by decide +kernel⟩
theorem ok_Places_deliver (T : Txt K mg) : MethOk P w K mg base 3 (He.ga K "Places") "deliver" ["self", "number"] (sp_deliver K) := by
  refine meth_ok (q := "Places.deliver") T 64 T.cls_Places T.me_Places_deliver sc_Places_deliver (fun vs H Q E h => ?_) (fun f cdv A outer s H vs Q E hr h => ?_) (fun _ _ _ _ _ _ us hl => match us, hl with | [_, _], _ => rfl)
  · obtain ⟨x0, x1, rfl, _⟩ := h
    rfl
  · have nd := sc_Places_deliver.nd
    have hu := hu_of hr
    have hu64 := hu64_of hr
    have c_Places_need_message := ok_Places_need_message (P := P) (w := w) (base := base) T
    obtain ⟨x0, x1, rfl, h⟩ := h
    refine ⟨_, (pss_cons (ps_expr (pe_methO c_Places_need_message (hr.mono (by first | decide | omega)) (pv 0) (pa_cons (pv 1) pa_nil))) (pss_cons (ps_asg (pe_dget hu (fldK (K := K) (pv 0) rfl) (pv 1) (fun _ _ => rfl)) (pg_tup rfl (pgs_cons (pg_name (i := 2) nd rfl (Or.inl rfl)) (pgs_cons (pg_name (i := 3) nd rfl (Or.inl rfl)) (pgs_cons (pg_name (i := 4) nd rfl (Or.inl rfl)) pgs_nil))))) (pss_cons (ps_set (i := 5) nd rfl (Or.inl rfl) (pe_dget hu (fldK (K := K) (pv 0) rfl) (pv 3) (fun _ _ => rfl))) (pss_cons (ps_for PassesOwn.never rfl (pi_list (pe_callTy (call_listD rfl) (by rfl) T.b_list boot_list (pa_cons (pv 4) pa_nil))) (pg_name (i := 6) nd rfl (Or.inl rfl)) (pss_one (ps_expr (pe_bm PySem.F.plainAttrs_dict PySem.F.slot_dict_update PySem.F.type_dict_update mt_update (pe_dget hu (pv 5) (pv 6) (fun _ _ => rfl)) (pa_cons (pe_dget hu (pv 4) (pv 6) (fun _ _ => rfl)) pa_nil))))) (pss_one (ps_expr (pe_bm PySem.F.plainAttrs_dict PySem.F.slot_dict_update PySem.F.type_dict_update mt_update (pe_dget hu (pv 5) (pv 3) (fun _ _ => rfl)) (pa_cons (pe_dget hu (pv 4) (pv 2) (fun _ _ => rfl)) pa_nil)))))))), ?_⟩
    obtain ⟨U, ks, A1, m, n, g, rfl, ok, at0, rfl, hg, q⟩ := h
    obtain ⟨dp, o⟩ := at0.op
    have hgm := List.mem_of_find?_eq_some hg
    have en : g.m.n = n := of_decide_eq_true (List.find?_some (p := fun g : PMsg => decide (g.m.n = n)) hg)
    have gat := at0.ms g hgm
    have hv := way_val hg
    have z1001 : (2000 : Nat) ≤ sizeLine := by decide
    refine ⟨_, rfl, A1.p, dp, _, rfl, o, places_no.2.1, _, rfl, _, _, rfl, A1.p, dp, A1.way, _, _, _, _, n, rfl, o, at0.way, rfl, by rw [← en]; exact gat.lo, by rw [hv]; rfl, ?_⟩
    refine ⟨_, rfl, _, _, _, _, _, rfl, o, T.cls_Places, T.na_Places_way, fl_Places_way .., _, rfl, A1.way, .ref g.m.t, rfl, hv ▸ DGet.k (k := Sum.inl n) at0.way, g.m.t, _, rfl, SqT.of gat.m, rfl, _, _, rfl, _, _, rfl, _, _, rfl, rfl, ?_⟩
    refine ⟨_, rfl, _, _, _, _, _, rfl, o, T.cls_Places, T.na_Places_sure, fl_Places_sure .., _, rfl, A1.su, .ref (A1.tb g.m.to), rfl, tblD_val (g := A1.tb) gat.to ▸ DGet.k (k := Sum.inr g.m.to) at0.su, ?_⟩
    refine ⟨_, rfl, g.m.kept, _, rfl, .inl gat.kept, fun l hl => ?_⟩
    have s1 := same_new (o := .lst ((tblD A1.ns g.kd).map fun kv => kV kv.1)) hl
    have e1 : ((tblD A1.ns g.kd).map fun kv => kV kv.1) = A1.ns.map V.str := by
      unfold tblD
      rw [List.map_map]
      rfl
    rw [e1] at s1 ⊢
    have el : (upd H l (.lst (A1.ns.map V.str))) l = some (.lst (A1.ns.map V.str)) := upd_same
    have nWl : ¬ A1.W l := fun z => at0.occ (.inl z) hl
    generalize upd H l (.lst (A1.ns.map V.str)) = H1 at s1 el ⊢
    have ukd : ∀ {H2 : Hp}, But A1.W H1 H2 → ∀ z ∈ A1.ns, H2 g.m.kept = some (.dK (tblD A1.ns g.kd)) ∧ H2 (g.kd z) = some (.dK (lDict (g.kl z))) ∧ H2 (A1.tb g.m.to) = some (.dK (tblD A1.ns (A1.inn g.m.to))) := fun b z hz =>
      ⟨b _ _ (s1 _ _ gat.kept) gat.kw, b _ _ (s1 _ _ (gat.kd z hz)) (gat.dw z hz), b _ _ (s1 _ _ (at0.tb _ gat.to)) (ok.tw _ gat.to)⟩
    have upd1 : ∀ {H2 : Hp} {M2 : Str → Str → List LRow} {z y : Str} {Qn : Hp → Prop}, But A1.W H1 H2 → PlAt K U ks H2 A1 ⟨M2, m.ms, m.sent⟩ → z ∈ A1.ns → y ∈ A1.ns → (∀ H3, But A1.W H1 H3 → PlAt K U ks H3 A1 ⟨setM M2 g.m.to z (mergeL (M2 g.m.to z) (g.kl y)), m.ms, m.sent⟩ → Qn H3) →
        A1.inn g.m.to z ≠ g.kd y ∧ (lDict (M2 g.m.to z)).length + (lDict (g.kl y)).length ≤ sizeLine ∧ Qn (upd H2 (A1.inn g.m.to z) (.dK (mergeK (lDict (M2 g.m.to z)) (lDict (g.kl y))))) := fun {H2 M2 z y Qn} b at2 hz hy k => by
      have l1 := (at2.good _ gat.to z hz).len
      have l2 := ((at2.ms g hgm).good y hy).len
      have hu := ok.u
      have ll : ∀ x : List LRow, (lDict x).length = x.length := fun x => by unfold lDict; rw [List.length_map]
      have gd := (at2.good _ gat.to z hz).merge ((at2.ms g hgm).good y hy)
      obtain ⟨p1, p2⟩ := at2.put ok gat.to hz gd
      rw [← lDict_merge]
      have l1 : (M2 g.m.to z).length ≤ U.length := l1
      exact ⟨fun e => gat.dw y hy (by rw [← e]; exact .inr (.inr ⟨_, gat.to, z, hz, rfl⟩)), by rw [ll, ll]; omega, k _ (b.trans p2) p1⟩
    refine ⟨l, rfl, ⟨_, SqL.of el⟩, for_it walk_list (fun n' σ H2 => ∃ v6 : Option V, σ = [some (.ref A1.p), some (.int n), some (.str g.m.fr), some (.str g.m.to), some (.ref g.m.kept), some (.ref (A1.tb g.m.to)), v6] ∧ But A1.W H1 H2 ∧ PlAt K U ks H2 A1 ⟨partM m.M g (A1.ns.take n'), m.ms, m.sent⟩) ⟨_, rfl, but_refl, (at0.same s1).congr fun i hi j hj => by simp [partM]⟩ (fun n' σ H2 _ ⟨_, _, b, _⟩ => SqL.of (b _ _ el nWl)) ?_ ?_⟩
    · rintro n' x σ H2 H3 hn ⟨v6, rfl, b, at2⟩ ⟨rfl, hx⟩
      obtain ⟨z, hz, rfl⟩ := getMap hx
      have hzm := List.mem_of_getElem? hz
      obtain ⟨k1, k2, k3⟩ := ukd b z hzm
      obtain ⟨p1, p2, p3⟩ := upd1 (Qn := fun H3 => ∃ v6 : Option V, [some (.ref A1.p), some (.int n), some (.str g.m.fr), some (.str g.m.to), some (.ref g.m.kept), some (.ref (A1.tb g.m.to)), some (.str z)] = [some (.ref A1.p), some (.int n), some (.str g.m.fr), some (.str g.m.to), some (.ref g.m.kept), some (.ref (A1.tb g.m.to)), v6] ∧ But A1.W H1 H3 ∧ PlAt K U ks H3 A1 ⟨partM m.M g (A1.ns.take (n' + 1)), m.ms, m.sent⟩) b at2 hzm hzm fun H3 b3 at3 => ⟨_, rfl, b3, at3.congr fun i hi j hj => by
        unfold setM partM
        rw [take_snoc hz]
        have zt := nodup_take ok.ns.1 hz
        by_cases e : i = g.m.to ∧ j = z
        · obtain ⟨rfl, rfl⟩ := e
          rw [if_pos ⟨rfl, rfl⟩, if_neg fun q => zt q.2, if_pos ⟨rfl, by simp⟩]
        · rw [if_neg e]
          by_cases e2 : i = g.m.to ∧ j ∈ A1.ns.take n'
          · rw [if_pos e2, if_pos ⟨e2.1, List.mem_append_left _ e2.2⟩]
          · rw [if_neg e2, if_neg fun q => ?_]
            rcases List.mem_append.mp q.2 with q2 | q2
            · exact e2 ⟨q.1, q2⟩
            · exact e ⟨q.1, List.mem_singleton.mp q2⟩⟩
      exact ⟨_, rfl, _, rfl, A1.tb g.m.to, .ref (A1.inn g.m.to z), rfl, tblD_val (g := A1.inn g.m.to) hzm ▸ DGet.k (k := Sum.inr z) k3, .inr (.inr (.inl ⟨rfl, .inl ⟨_, at2.inn _ gat.to z hzm⟩⟩)), _, rfl, _, rfl, g.m.kept, .ref (g.kd z), rfl, tblD_val (g := g.kd) hzm ▸ DGet.k (k := Sum.inr z) k1, A1.inn g.m.to z, g.kd z, _, _, rfl, rfl, p1, at2.inn _ gat.to z hzm, k2, p2, p3⟩
    · rintro σ H2 ⟨v6, rfl, b, at2⟩
      rw [List.length_map, List.take_length] at at2
      obtain ⟨k1, k2, k3⟩ := ukd b g.m.fr gat.fr
      obtain ⟨p1, p2, p3⟩ := upd1 (Qn := fun H3 => Q .non H3) b at2 gat.to gat.fr fun H3 b3 at3 => q H3 ((but_same s1).trans b3) (at3.congr fun i hi j hj => by
        unfold setM partM deliverM
        by_cases e1 : i = g.m.to
        · subst e1
          by_cases e2 : j = g.m.to
          · subst e2
            simp [gat.to]
          · simp [e2, hj]
        · simp [e1])
      exact ⟨_, rfl, _, rfl, A1.tb g.m.to, .ref (A1.inn g.m.to g.m.to), rfl, tblD_val (g := A1.inn g.m.to) gat.to ▸ DGet.k (k := Sum.inr g.m.to) k3, .inr (.inr (.inl ⟨rfl, .inl ⟨_, at2.inn _ gat.to _ gat.to⟩⟩)), _, rfl, _, rfl, g.m.kept, .ref (g.kd g.m.fr), rfl, tblD_val (g := g.kd) gat.fr ▸ DGet.k (k := Sum.inr g.m.fr) k1, A1.inn g.m.to g.m.to, g.kd g.m.fr, _, _, rfl, rfl, p1, at2.inn _ gat.to _ gat.to, k2, p2, p3⟩
end
section
variable {K : PySem.W.Frag} {U ks : List Str} {H : Hp} {A : PlA} {m : PlM} {Q : VK}
theorem write_of {i : Str} {e : LRow} (ok : A.Ok U ks) (h : PlAt K U ks H A m) (hi : i ∈ A.ns) (he : GoodL K H U ks e) (q : ∀ H', But A.W H H' → PlAt K U ks H' A ⟨setM m.M i i (putL (m.M i i) e), m.ms, m.sent⟩ → Q .non H') : sp_write K [.ref A.p, .str i, .ref e.a] H Q E0 := by
  obtain ⟨dp, o⟩ := h.op
  have l1 := (h.good i hi i hi).len
  have hu := ok.u
  refine ⟨_, _, _, rfl, A.p, dp, A.su, A.tb i, _, _, _, _, _, i, A.inn i i, _, e, rfl, o, h.su, rfl, ok.ns.2.2.2 i hi, tblD_val hi, h.tb i hi, tblD_val hi, h.inn i hi i hi, ?_, rfl, he.1, fun H1 s1 => ?_⟩
  · unfold lDict
    rw [List.length_map]
    omega
  · rw [← lDict_put]
    have h1 := h.same s1
    obtain ⟨p1, p2⟩ := h1.put ok hi hi ((h1.good i hi i hi).put (he.keepP (kp_same s1) (tk_same s1)))
    exact q _ ((but_same s1).trans p2) p1
theorem lose_of {n : Int} {g : PMsg} (ok : A.Ok U ks) (h : PlAt K U ks H A m) (hg : m.ms.find? (fun g => decide (g.m.n = n)) = some g) (q : ∀ H', But A.W H H' → PlAt K U ks H' A ⟨m.M, m.ms.filter fun g => decide (g.m.n ≠ n), m.sent⟩ → Q .non H') : sp_lose K [.ref A.p, .int n] H Q E0 := by
  obtain ⟨dp, o⟩ := h.op
  have hgm := List.mem_of_find?_eq_some hg
  have en : g.m.n = n := of_decide_eq_true (List.find?_some (p := fun g : PMsg => decide (g.m.n = n)) hg)
  refine ⟨_, _, rfl, A.p, dp, A.way, _, _, _, _, n, rfl, o, h.way, rfl, by rw [← en]; exact (h.ms g hgm).lo, by rw [way_val hg]; rfl, ?_⟩
  rw [way_drop]
  have b : But A.W H (upd H A.way (.dK (mDict ((m.ms.filter fun g => decide (g.m.n ≠ n)).map (·.m))))) := but_mut (.inr (.inl rfl))
  refine q _ b (h.step ok b ⟨dp, ?_⟩ (fun i hi j hj => ?_) (fun i hi j hj => (h.good i hi j hj).keepP (h.kp b) (h.tk b)) upd_same (fun g hg => .inl (List.mem_filter.mp hg).1) (Nat.le_refl _) (Nat.le_trans (List.length_filter_le _ _) h.ml))
  · rw [upd_ne (h.p_ne h.way)]
    exact o
  · rw [upd_ne (ok.wi i hi j hj)]
    exact h.inn i hi j hj
theorem GoodS.at {l : List LRow} (h : GoodS K H U ks l) : ∀ e ∈ l, LRow.At K H e := fun e he => (h.1 e he).1
theorem state_of {i : Str} (ok : A.Ok U ks) (h : PlAt K U ks H A m) (hi : i ∈ A.ns) (q : ∀ H' y l', Same H H' → l'.Perm (m.M i i) → StateAt K H' y A.f.x l' → Q (.ref y) H') : sp_state K [.ref A.p, .str i] H Q E0 := by
  obtain ⟨dp, o⟩ := h.op
  have g := h.good i hi i hi
  have l1 := g.len
  have hu := ok.u
  exact ⟨_, _, rfl, A.p, dp, A.su, A.tb i, A.f, _, _, _, _, i, A.inn i i, m.M i i, ks, rfl, o, h.fo, ok.fl, h.su, rfl, ok.ns.2.2.2 i hi, tblD_val hi, h.tb i hi, tblD_val hi, h.inn i hi i hi, g.at, by omega, g.2, ok.k, ok.fk, fun e he => (g.1 e he).2.2, fun H' y l' s hp _ => q H' y l' s hp⟩
theorem messages_of (ok : A.Ok U ks) (h : PlAt K U ks H A m) (hs : m.sent ≤ 1000) (q : ∀ H' r, Same H H' → Tv H' (.tup ((sortM (m.ms.map (·.m))).map msgDt)) (.ref r) → Q (.ref r) H') : sp_messages K [.ref A.p] H Q E0 := by
  obtain ⟨dp, o⟩ := h.op
  refine ⟨_, rfl, A.p, dp, A.way, _, _, _, m.ms.map (·.m), rfl, o, h.way, fun g hg => ?_, ?_, q⟩
  · obtain ⟨g', hg', rfl⟩ := List.mem_map.mp hg
    exact (h.ms g' hg').m
  · rw [List.length_map]
    exact Nat.le_trans h.ml hs
theorem place_names_of (ok : A.Ok U ks) (h : PlAt K U ks H A m) (q : ∀ H' r ys, Same H H' → ys.Perm A.ns → sortedS ys = true → H' r = some (.tup (ys.map V.str)) → Q (.ref r) H') : sp_place_names K [.ref A.p] H Q E0 := by
  obtain ⟨dp, o⟩ := h.op
  have l8 := ok.ns.2.2.1
  refine ⟨_, rfl, A.p, dp, A.su, _, _, _, _, A.ns, rfl, o, h.su, ?_, by omega, q⟩
  unfold tblD
  rw [List.map_map]
  rfl
end
end Lv
set_option maxHeartbeats 4000000
namespace Lv
open PySem PySem.Spec PyProof.Rows L2
def togL (M : Str → Str → List LRow) (zs : List Str) : List LRow := zs.foldl (fun L z => mergeL L (M z z)) []
theorem togL_snoc (M : Str → Str → List LRow) (zs : List Str) (z : Str) : togL M (zs ++ [z]) = mergeL (togL M zs) (M z z) := by
  unfold togL
  rw [List.foldl_append]
  rfl
theorem togL_good {K : PySem.W.Frag} {U ks : List Str} {H : Hp} {M : Str → Str → List LRow} : ∀ {zs : List Str}, (∀ z ∈ zs, GoodS K H U ks (M z z)) → GoodS K H U ks (togL M zs) := by
  intro zs h
  unfold togL
  have key : ∀ (zs : List Str) (L : List LRow), GoodS K H U ks L → (∀ z ∈ zs, GoodS K H U ks (M z z)) → GoodS K H U ks (zs.foldl (fun L z => mergeL L (M z z)) L) := by
    intro zs
    induction zs with
    | nil => intro L hL _; exact hL
    | cons z zs ih => intro L hL h; exact ih _ (hL.merge (h z List.mem_cons_self)) fun y hy => h y (List.mem_cons_of_mem _ hy)
  exact key zs [] ⟨by simp, by simp⟩ h
theorem togL_text (M : Str → Str → List LRow) (t : Str) (zs : List Str) : t ∈ (togL M zs).map LRow.text ↔ ∃ z ∈ zs, t ∈ (M z z).map LRow.text := by
  have key : ∀ (zs : List Str) (L : List LRow), t ∈ (zs.foldl (fun L z => mergeL L (M z z)) L).map LRow.text ↔ t ∈ L.map LRow.text ∨ ∃ z ∈ zs, t ∈ (M z z).map LRow.text := by
    intro zs
    induction zs with
    | nil => intro L; simp
    | cons z zs ih =>
      intro L
      show t ∈ (zs.foldl (fun L z => mergeL L (M z z)) (mergeL L (M z z))).map LRow.text ↔ _
      rw [ih, mergeL_text]
      simp only [List.mem_cons, exists_eq_or_imp, or_assoc]
  have := key zs []
  unfold togL
  simpa using this
theorem StateAt.same {K : PySem.W.Frag} {H H' : Hp} {x fx : Addr} {l : List LRow} (h : StateAt K H x fx l) (s : Same H H') : StateAt K H' x fx l := by
  obtain ⟨dx, D, t, sp, cn, ac, vo, ba, o, eD, et⟩ := h
  exact ⟨dx, D, t, sp, cn, ac, vo, ba, s _ _ o, s _ _ eD, s _ _ et⟩
section
variable {P : Program} {w : World} {K : PySem.W.Frag} {mg : Str → Option Value} {base : Heap} {U ks : List Str}
def sp_together (K : PySem.W.Frag) : Sp := sp1 fun v H Q => ∃ (U ks : List Str) (A : PlA) (m : PlM), v = .ref A.p ∧ A.Ok U ks ∧ PlAt K U ks H A m ∧ ∀ H' y l', Same H H' → l'.Perm (togL m.M A.ns) → StateAt K H' y A.f.x l' → Q (.ref y) H'
abbrev N_Places_together : List Str := ["self", "found", "place"]
theorem sc_Places_together : FnScope N_Places_together ["self"] (defScope s_Places_together) := ⟨rfl, rfl, rfl, by decide +kernel, rfl, by decide +kernel, by decide +kernel⟩
theorem ok_Places_together (T : Txt K mg) : MethOk P w K mg base 13 (He.ga K "Places") "together" ["self"] (sp_together K) := by
  refine meth_ok (q := "Places.together") T 69 T.cls_Places T.me_Places_together sc_Places_together (fun vs H Q E h => ?_) (fun f cdv A outer s H vs Q E hr h => ?_) (fun _ _ _ _ _ _ us hl => match us, hl with | [_], _ => rfl)
  · obtain ⟨x0, rfl, _⟩ := h
    rfl
  · have nd := sc_Places_together.nd
    have hu := hu_of hr
    have hu64 := hu64_of hr
    have c_Places_told := ok_Places_told (P:=P) (w:=w) (base:=base) T
    obtain ⟨x0, rfl, h⟩ := h
    refine ⟨_, (pss_cons (ps_set (i := 1) nd rfl (Or.inl rfl) pe_dnewK) (pss_cons (ps_lock (ps_for PassesOwn.never rfl (pi_keys (fldK (K := K) (pv 0) rfl)) (pg_name (i := 2) nd rfl (Or.inl rfl)) (pss_one (ps_expr (pe_bm PySem.F.plainAttrs_dict PySem.F.slot_dict_update PySem.F.type_dict_update mt_update (pv 1) (pa_cons (pe_dget hu (pe_dget hu (fldK (K := K) (pv 0) rfl) (pv 2) (fun _ _ => rfl)) (pv 2) (fun _ _ => rfl)) pa_nil)))))) (pss_one (ps_ret (pe_methO c_Places_told (hr.mono (by first | decide | omega)) (pv 0) (pa_cons (pv 1) pa_nil)))))), ?_⟩
    obtain ⟨U, ks, A1, m, rfl, ok, at0, q⟩ := h
    obtain ⟨dp, o⟩ := at0.op
    have z1001 : (2000 : Nat) ≤ sizeLine := by decide
    refine fun D hD => ?_
    have s0 := same_new (o := .dK []) hD
    have eD0 : (upd H D (.dK [])) D = some (.dK []) := upd_same
    have nsu : A1.su ≠ D := fun z => by rw [← z, at0.su] at hD; cases hD
    generalize upd H D (.dK []) = H1 at s0 eD0 ⊢
    have at1 := at0.same s0
    have o1 := s0 _ _ o
    have pD : A1.p ≠ D := fun z => by rw [← z, o] at hD; cases hD
    have gall : GoodS K H U ks (togL m.M A1.ns) := togL_good fun z hz => at0.good z hz z hz
    refine ⟨A1.su, _, at1.su, trivial, fun od => ?_⟩
    have oL : (upd H1 A1.su (.frz od (.dK (tblD A1.ns A1.tb)))) A1.p = some (.ins (He.ga K "Places") dp (fl_Places (.ref A1.f.x) (.ref A1.su) (.ref A1.way) (.int m.sent))) := by
      rw [upd_ne (at1.p_ne at1.su)]
      exact o1
    refine ⟨_, rfl, _, _, _, _, _, rfl, oL, T.cls_Places, T.na_Places_sure, fl_Places_sure .., A1.su, od, rfl, .inl ⟨_, upd_same, for_it walk_keys (fun n σ H2 => ∃ v2 : Option V, σ = [some (.ref A1.p), some (.ref D), v2] ∧ But1 D (upd H1 A1.su (.frz od (.dK (tblD A1.ns A1.tb)))) H2 ∧ H2 D = some (.dK (lDict (togL m.M (A1.ns.take n))))) ⟨_, rfl, but_refl, by rw [upd_ne nsu.symm]; exact eD0⟩ (fun n σ H2 _ ⟨_, _, b, _⟩ => b _ _ upd_same nsu) ?_ ?_⟩⟩
    · rintro n x σ H2 H3 hn ⟨v2, rfl, b, eD⟩ ⟨rfl, k, u, hk, rfl⟩
      obtain ⟨z, hz, rfl, rfl⟩ := tblD_get hk
      have hzm := List.mem_of_getElem? hz
      have o2 := b _ _ oL pD
      have nl : ∀ {b : Addr} {kv : List (Key × V)}, H b = some (.dK kv) → b ≠ D := fun e => ne_of_none e hD
      have tbe := at0.tb z hzm
      have tb2 : H3 (A1.tb z) = some (.dK (tblD A1.ns (A1.inn z))) ∨ A1.tb z = A1.su := by
        by_cases e : A1.tb z = A1.su
        · exact .inr e
        · exact .inl (b _ _ (by rw [upd_ne e]; exact s0 _ _ tbe) (nl tbe))
      have inn2 : H3 (A1.inn z z) = some (.dK (lDict (m.M z z))) := b _ _ (by rw [upd_ne fun e => ok.sw (.inr (.inr ⟨z, hzm, z, hzm, e.symm⟩))]; exact s0 _ _ (at0.inn z hzm z hzm)) (nl (at0.inn z hzm z hzm))
      have tbg : DGet H3 (A1.tb z) (kV (Sum.inr z)) (some (.ref (A1.inn z z))) := by
        rcases tb2 with e | e
        · exact tblD_val (g := A1.inn z) hzm ▸ DGet.k (k := Sum.inr z) e
        · have h1 := at0.su
          rw [← e, tbe] at h1
          have h2 : H3 (A1.tb z) = some (.frz od (.dK (tblD A1.ns (A1.inn z)))) := by
            rw [HO.dK.inj (Option.some.inj h1), e]
            exact b _ _ upd_same nsu
          exact tblD_val (g := A1.inn z) hzm ▸ DGet.f (k := Sum.inr z) h2
      have gt : GoodS K H U ks (togL m.M (A1.ns.take n)) := togL_good fun y hy => at0.good y (List.mem_of_mem_take hy) y (List.mem_of_mem_take hy)
      have l1 := gt.len
      have l2 := (at0.good z hzm z hzm).len
      have hu := ok.u
      have ll : ∀ x : List LRow, (lDict x).length = x.length := fun x => by unfold lDict; rw [List.length_map]
      refine ⟨_, rfl, .inr (.inr (.inl ⟨rfl, .inl ⟨_, eD⟩⟩)), _, rfl, _, _, _, _, _, rfl, o2, T.cls_Places, T.na_Places_sure, fl_Places_sure .., _, rfl, A1.su, .ref (A1.tb z), rfl, tblD_val (g := A1.tb) hzm ▸ DGet.f (k := Sum.inr z) (b _ _ upd_same nsu), _, rfl, A1.tb z, .ref (A1.inn z z), rfl, tbg,
        D, A1.inn z z, _, _, rfl, rfl, (nl (at0.inn z hzm z hzm)).symm, eD, inn2, by rw [ll, ll]; omega, _, rfl, but1_upd b, ?_⟩
      rw [upd_same, take_snoc hz, togL_snoc, lDict_merge]
    · rintro σ H2 ⟨v2, rfl, b, eD⟩
      have tl : List.take (tblD A1.ns A1.tb).length A1.ns = A1.ns := List.take_of_length_le (by unfold tblD; rw [List.length_map]; exact Nat.le_refl _)
      rw [tl] at eD
      refine ⟨b _ _ upd_same nsu, ?_⟩
      have s3 : Same H (upd H2 A1.su (.dK (tblD A1.ns A1.tb))) := fun x u e => by
        by_cases hx : x = A1.su
        · rw [hx, upd_same, ← at0.su, ← hx]
          exact e
        · rw [upd_ne hx]
          exact b _ _ (by rw [upd_ne hx]; exact s0 _ _ e) (ne_of_none e hD)
      have o3 := s3 _ _ o
      have l1 := gall.len
      have hu := ok.u
      refine ⟨_, rfl, A1.p, dp, _, rfl, o3, places_no.2.2.1, _, rfl, _, _, rfl, A1.p, dp, A1.f, _, _, _, D, togL m.M A1.ns, ks, rfl, o3, at0.fo.same s3, ok.fl, rfl, (by rw [upd_ne nsu.symm]; exact eD), fun e he => LRow.same s3 (gall.1 e he).1, by omega, gall.2, ok.k, ok.fk, fun e he => (gall.1 e he).2.2, fun H' y l' s' hp _ hst => q H' y l' (s3.trans s') hp hst⟩
def sp_lacking (K : PySem.W.Frag) : Sp := sp2 fun v x0 H Q => ∃ (U ks : List Str) (A : PlA) (m : PlM) (i : Str), v = .ref A.p ∧ A.Ok U ks ∧ PlAt K U ks H A m ∧ x0 = .str i ∧ i ∈ A.ns ∧ ∀ H' p ys, Same H H' → H' p = some (.tup (ys.map V.str)) → ys.Nodup →
  (∀ k, k ∈ ys ↔ ∃ e ∈ togL m.M A.ns, e.text ∉ (m.M i i).map LRow.text ∧ e.acc = k) → sortedS ys = true → Q (.ref p) H'
end
end Lv
set_option maxHeartbeats 4000000
namespace Lv
open PySem PySem.Spec PyProof.Rows L2
def dd_pen (v0 v1 v2 v3 v4 : V) : List (Key × V) := [((Sum.inr "cells" : Key), v0), ((Sum.inr "at" : Key), v1), ((Sum.inr "digits" : Key), v2), ((Sum.inr "count" : Key), v3), ((Sum.inr "fold" : Key), v4)]
theorem dd_pen_cells (v0 v1 v2 v3 v4 : V) : valV (dd_pen v0 v1 v2 v3 v4) (Sum.inr "cells" : Key) = some v0 := by
  have n1 : ¬ ("at" : Str) = "cells" := by decide +kernel
  have n2 : ¬ ("digits" : Str) = "cells" := by decide +kernel
  have n3 : ¬ ("count" : Str) = "cells" := by decide +kernel
  have n4 : ¬ ("fold" : Str) = "cells" := by decide +kernel
  simp [valV, dd_pen, n1, n2, n3, n4]
theorem dd_pen_put_cells (v0 v1 v2 v3 v4 x : V) : putK (dd_pen v0 v1 v2 v3 v4) (Sum.inr "cells" : Key) x = dd_pen x v1 v2 v3 v4 := by
  have n1 : ¬ ("at" : Str) = "cells" := by decide +kernel
  have n2 : ¬ ("digits" : Str) = "cells" := by decide +kernel
  have n3 : ¬ ("count" : Str) = "cells" := by decide +kernel
  have n4 : ¬ ("fold" : Str) = "cells" := by decide +kernel
  simp [putK, dd_pen, n1, n2, n3, n4]
theorem dd_pen_at (v0 v1 v2 v3 v4 : V) : valV (dd_pen v0 v1 v2 v3 v4) (Sum.inr "at" : Key) = some v1 := by
  have n0 : ¬ ("cells" : Str) = "at" := by decide +kernel
  have n2 : ¬ ("digits" : Str) = "at" := by decide +kernel
  have n3 : ¬ ("count" : Str) = "at" := by decide +kernel
  have n4 : ¬ ("fold" : Str) = "at" := by decide +kernel
  simp [valV, dd_pen, n0, n2, n3, n4]
theorem dd_pen_put_at (v0 v1 v2 v3 v4 x : V) : putK (dd_pen v0 v1 v2 v3 v4) (Sum.inr "at" : Key) x = dd_pen v0 x v2 v3 v4 := by
  have n0 : ¬ ("cells" : Str) = "at" := by decide +kernel
  have n2 : ¬ ("digits" : Str) = "at" := by decide +kernel
  have n3 : ¬ ("count" : Str) = "at" := by decide +kernel
  have n4 : ¬ ("fold" : Str) = "at" := by decide +kernel
  simp [putK, dd_pen, n0, n2, n3, n4]
theorem dd_pen_digits (v0 v1 v2 v3 v4 : V) : valV (dd_pen v0 v1 v2 v3 v4) (Sum.inr "digits" : Key) = some v2 := by
  have n0 : ¬ ("cells" : Str) = "digits" := by decide +kernel
  have n1 : ¬ ("at" : Str) = "digits" := by decide +kernel
  have n3 : ¬ ("count" : Str) = "digits" := by decide +kernel
  have n4 : ¬ ("fold" : Str) = "digits" := by decide +kernel
  simp [valV, dd_pen, n0, n1, n3, n4]
theorem dd_pen_put_digits (v0 v1 v2 v3 v4 x : V) : putK (dd_pen v0 v1 v2 v3 v4) (Sum.inr "digits" : Key) x = dd_pen v0 v1 x v3 v4 := by
  have n0 : ¬ ("cells" : Str) = "digits" := by decide +kernel
  have n1 : ¬ ("at" : Str) = "digits" := by decide +kernel
  have n3 : ¬ ("count" : Str) = "digits" := by decide +kernel
  have n4 : ¬ ("fold" : Str) = "digits" := by decide +kernel
  simp [putK, dd_pen, n0, n1, n3, n4]
theorem dd_pen_count (v0 v1 v2 v3 v4 : V) : valV (dd_pen v0 v1 v2 v3 v4) (Sum.inr "count" : Key) = some v3 := by
  have n0 : ¬ ("cells" : Str) = "count" := by decide +kernel
  have n1 : ¬ ("at" : Str) = "count" := by decide +kernel
  have n2 : ¬ ("digits" : Str) = "count" := by decide +kernel
  have n4 : ¬ ("fold" : Str) = "count" := by decide +kernel
  simp [valV, dd_pen, n0, n1, n2, n4]
theorem dd_pen_put_count (v0 v1 v2 v3 v4 x : V) : putK (dd_pen v0 v1 v2 v3 v4) (Sum.inr "count" : Key) x = dd_pen v0 v1 v2 x v4 := by
  have n0 : ¬ ("cells" : Str) = "count" := by decide +kernel
  have n1 : ¬ ("at" : Str) = "count" := by decide +kernel
  have n2 : ¬ ("digits" : Str) = "count" := by decide +kernel
  have n4 : ¬ ("fold" : Str) = "count" := by decide +kernel
  simp [putK, dd_pen, n0, n1, n2, n4]
theorem dd_pen_fold (v0 v1 v2 v3 v4 : V) : valV (dd_pen v0 v1 v2 v3 v4) (Sum.inr "fold" : Key) = some v4 := by
  have n0 : ¬ ("cells" : Str) = "fold" := by decide +kernel
  have n1 : ¬ ("at" : Str) = "fold" := by decide +kernel
  have n2 : ¬ ("digits" : Str) = "fold" := by decide +kernel
  have n3 : ¬ ("count" : Str) = "fold" := by decide +kernel
  simp [valV, dd_pen, n0, n1, n2, n3]
theorem dd_pen_put_fold (v0 v1 v2 v3 v4 x : V) : putK (dd_pen v0 v1 v2 v3 v4) (Sum.inr "fold" : Key) x = dd_pen v0 v1 v2 v3 x := by
  have n0 : ¬ ("cells" : Str) = "fold" := by decide +kernel
  have n1 : ¬ ("at" : Str) = "fold" := by decide +kernel
  have n2 : ¬ ("digits" : Str) = "fold" := by decide +kernel
  have n3 : ¬ ("count" : Str) = "fold" := by decide +kernel
  simp [putK, dd_pen, n0, n1, n2, n3]
theorem dd_pen_mk (v0 v1 v2 v3 v4 : V) : mergeK [] (dd_pen v0 v1 v2 v3 v4) = dd_pen v0 v1 v2 v3 v4 := by
  have n0_1 : ¬ ("cells" : Str) = "at" := by decide +kernel
  have n0_2 : ¬ ("cells" : Str) = "digits" := by decide +kernel
  have n0_3 : ¬ ("cells" : Str) = "count" := by decide +kernel
  have n0_4 : ¬ ("cells" : Str) = "fold" := by decide +kernel
  have n1_2 : ¬ ("at" : Str) = "digits" := by decide +kernel
  have n1_3 : ¬ ("at" : Str) = "count" := by decide +kernel
  have n1_4 : ¬ ("at" : Str) = "fold" := by decide +kernel
  have n2_3 : ¬ ("digits" : Str) = "count" := by decide +kernel
  have n2_4 : ¬ ("digits" : Str) = "fold" := by decide +kernel
  have n3_4 : ¬ ("count" : Str) = "fold" := by decide +kernel
  simp [mergeK, putK, dd_pen, n0_1, n0_2, n0_3, n0_4, n1_2, n1_3, n1_4, n2_3, n2_4, n3_4]
structure PenA where
  p : Addr
  c : Addr
  cells : List Int
def PenAt (H : Hp) (a : PenA) (n : Nat) : Prop := H a.c = some (.lst (a.cells.map V.int)) ∧ a.cells.length ≤ 1000 ∧ ∃ (at_ : Nat) (d f : Int), H a.p = some (.dK (dd_pen (.ref a.c) (.int at_) (.int d) (.int n) (.int f))) ∧ 0 ≤ d ∧ 0 ≤ f ∧ f < 2147483587
theorem PenAt.but {S : Addr → Prop} {H H' : Hp} {a : PenA} {n : Nat} (b : But S H H') (h1 : ¬ S a.p) (h2 : ¬ S a.c) (h : PenAt H a n) : PenAt H' a n := by
  obtain ⟨e1, l, at_, d, f, e2, r⟩ := h
  exact ⟨b _ _ e1 h2, l, at_, d, f, b _ _ e2 h1, r⟩
theorem PenAt.same {H H' : Hp} {a : PenA} {n : Nat} (s : Same H H') (h : PenAt H a n) : PenAt H' a n := h.but (S := fun _ => False) (but_same s) id id
section
variable {P : Program} {w : World} {K : PySem.W.Frag} {mg : Str → Option Value} {base : Heap}
def sp_law_draw : Sp := sp2 fun v x0 H Q => ∃ (a : PenA) (n : Nat) (many : Int), v = .ref a.p ∧ PenAt H a n ∧ n ≤ 1000000 ∧ x0 = .int many ∧ 1 ≤ many ∧ many ≤ 1000000 ∧ ∀ (H' : Hp) (k : Int), But1 a.p H H' → PenAt H' a (n + 1) → 0 ≤ k → k < many → Q (.int k) H'
abbrev N__law_draw : List Str := ["pen", "many", "cell", "digit", "blend"]
theorem sc__law_draw : FnScope N__law_draw ["pen", "many"] (defScope s__law_draw) := ⟨rfl, rfl, rfl, by decide +kernel, rfl, by decide +kernel, by decide +kernel⟩
theorem ok__law_draw (T : Txt K mg) : CallOk P w K mg base 1 "_law_draw" ["pen", "many"] [] sp_law_draw := by
  refine call_ok T 71 T.g__law_draw sc__law_draw (fun vs H Q E h => ?_) (fun f cdv A outer s H vs Q E hr h => ?_) (fun _ _ _ _ _ _ us hl => match us, hl with | [_, _], _ => rfl)
  · obtain ⟨x0, x1, rfl, _⟩ := h
    rfl
  · have nd := sc__law_draw.nd
    have hu := hu_of hr
    have hu64 := hu64_of hr
    obtain ⟨x0, x1, rfl, h⟩ := h
    refine ⟨_, (pss_cons (ps_dput hu (pv 0) pe_str (pe_op op_add (pe_dget hu (pv 0) pe_str (fun _ _ => rfl)) pe_int) rfl) (pss_cut (ps_if (PW.pt (pw_and (pt_cmpR op_eq (pe_dget hu (pv 0) pe_str (fun _ _ => rfl)) pe_int (nomark _)) (pw_and1 (pt_cmpR op_lt (pe_dget hu (pv 0) pe_str (fun _ _ => rfl)) (pe_callB (lenSK (K := K)) (by rfl) T.b_len boot_len (pa_cons (pe_dget hu (pv 0) pe_str (fun _ _ => rfl)) pa_nil)) (nomark _))))) (pss_cons (ps_set (i := 2) nd rfl (Or.inl rfl) (pe_ix (ixL (K := K)) (pe_dget hu (pv 0) pe_str (fun _ _ => rfl)) (pe_dget hu (pv 0) pe_str (fun _ _ => rfl)) (fun _ _ => rfl))) (pss_cons (ps_dput hu (pv 0) pe_str (pe_op op_add (pe_dget hu (pv 0) pe_str (fun _ _ => rfl)) pe_int) rfl) (pss_one (ps_if (pt_cmpR op_ge (pv 2) (pe_op op_pow pe_int pe_int) (nomark _)) (pss_one (ps_dput hu (pv 0) pe_str (pe_op op_sub (pv 2) (pe_op op_pow pe_int pe_int)) rfl)) (pss_one (ps_dput hu (pv 0) pe_str (pe_op op_mod (pe_callTy call_int1 (by rfl) T.b_int boot_int (pa_cons (pe_op op_add (pe_op op_mul (pe_dget hu (pv 0) pe_str (fun _ _ => rfl)) pe_int) (pv 2)) pa_nil)) pe_int) rfl)))))) pss_nil) (pss_cut (ps_if (pt_cmpR op_gt (pe_dget hu (pv 0) pe_str (fun _ _ => rfl)) pe_int (nomark _)) (pss_cons (ps_set (i := 3) nd rfl (Or.inl rfl) (pe_op op_mod (pe_callTy call_int1 (by rfl) T.b_int boot_int (pa_cons (pe_dget hu (pv 0) pe_str (fun _ _ => rfl)) pa_nil)) (pv 1))) (pss_cons (ps_dput hu (pv 0) pe_str (pe_op op_fdiv (pe_dget hu (pv 0) pe_str (fun _ _ => rfl)) (pv 1)) rfl) (pss_one (ps_ret (pv 3))))) pss_nil) (pss_cons (ps_set (i := 4) nd rfl (Or.inl rfl) (pe_op op_add (pe_op op_add (pe_dget hu (pv 0) pe_str (fun _ _ => rfl)) (pe_op op_mul (pe_dget hu (pv 0) pe_str (fun _ _ => rfl)) pe_int)) pe_int)) (pss_one (ps_ret (pe_op op_mod (pe_op op_fdiv (pe_callTy call_int1 (by rfl) T.b_int boot_int (pa_cons (pe_op op_mod (pe_op op_pow (pv 4) pe_int) pe_int) pa_nil)) pe_int) (pv 1)))))))), ?_⟩
    obtain ⟨a, n, many, rfl, ⟨ec, lc, at_, d, f, ep, hd, hf, hf2⟩, hn, rfl, h1, h2, q⟩ := h
    have z15 : (5 : Nat) < sizeLine := by decide
    have cp : a.c ≠ a.p := fun z => by rw [z, ep] at ec; cases ec
    have get : ∀ {H : Hp} {v0 v1 v2 v3 v4 : V}, H a.p = some (.dK (dd_pen v0 v1 v2 v3 v4)) → DGet H a.p (kV (Sum.inr "cells")) (some v0) ∧ DGet H a.p (kV (Sum.inr "at")) (some v1) ∧ DGet H a.p (kV (Sum.inr "digits")) (some v2) ∧ DGet H a.p (kV (Sum.inr "count")) (some v3) ∧ DGet H a.p (kV (Sum.inr "fold")) (some v4) := fun e =>
      ⟨dd_pen_cells .. ▸ DGet.k (k := Sum.inr "cells") e, dd_pen_at .. ▸ DGet.k (k := Sum.inr "at") e, dd_pen_digits .. ▸ DGet.k (k := Sum.inr "digits") e, dd_pen_count .. ▸ DGet.k (k := Sum.inr "count") e, dd_pen_fold .. ▸ DGet.k (k := Sum.inr "fold") e⟩
    refine ⟨_, rfl, a.p, _, rfl, (get ep).2.2.2.1, _, _, rfl, rfl, _, rfl, a.p, _, rfl, DPut.k (k := Sum.inr "count") ep z15, ?_⟩
    rw [dd_pen_put_count]
    have b1 : But1 a.p H (upd H a.p (.dK (dd_pen (.ref a.c) (.int at_) (.int d) (.int (n + 1)) (.int f)))) := but_mut rfl
    have e1 : (upd H a.p (.dK (dd_pen (.ref a.c) (.int at_) (.int d) (.int (n + 1)) (.int f)))) a.p = some (.dK (dd_pen (.ref a.c) (.int at_) (.int d) (.int (n + 1)) (.int f))) := upd_same
    generalize upd H a.p (.dK (dd_pen (.ref a.c) (.int at_) (.int d) (.int (n + 1)) (.int f))) = H1 at b1 e1 ⊢
    have c1 : ∀ {H2 : Hp}, But1 a.p H H2 → SqL K H2 a.c (a.cells.map V.int) := fun b => SqL.of (b _ _ ec cp)
    refine ⟨fun σ H2 => ∃ (v2 : Option V) (at2 : Nat) (d2 f2 : Int), σ = [some (.ref a.p), some (.int many), v2, none, none] ∧ But1 a.p H H2 ∧ H2 a.p = some (.dK (dd_pen (.ref a.c) (.int at2) (.int d2) (.int (n + 1)) (.int f2))) ∧ 0 ≤ d2 ∧ 0 ≤ f2 ∧ f2 < 2147483587, ?_, ?_⟩
    · refine ⟨_, rfl, a.p, _, rfl, (get e1).2.2.1, rfl, _, rfl, iteB (fun _ => ?_) (fun _ => ⟨_, _, _, _, rfl, b1, e1, hd, hf, hf2⟩)⟩
      refine ⟨_, rfl, a.p, _, rfl, (get e1).2.1, _, rfl, a.p, _, rfl, (get e1).1, a.c, _, rfl, .inl (c1 b1), _, _, rfl, rfl, _, rfl, iteB (fun hl => ?_) (fun _ => ⟨_, _, _, _, rfl, b1, e1, hd, hf, hf2⟩)⟩
      have hl : (at_ : Int) < (a.cells.map V.int).length := of_decide_eq_true hl
      rw [List.length_map] at hl
      have hl2 : at_ < a.cells.length := by omega
      have hx : (a.cells.map V.int)[at_]? = some (.int a.cells[at_]) := by
        rw [List.getElem?_map, List.getElem?_eq_getElem hl2]
        rfl
      refine ⟨_, rfl, a.p, _, rfl, (get e1).1, _, rfl, a.p, _, rfl, (get e1).2.1, a.c, _, _, _, rfl, rfl, c1 b1, atI_nat (j := at_) hx, ?_⟩
      refine ⟨_, rfl, a.p, _, rfl, (get e1).2.1, _, _, rfl, rfl, _, rfl, a.p, _, rfl, DPut.k (k := Sum.inr "at") e1 z15, ?_⟩
      rw [dd_pen_put_at]
      have b2 : But1 a.p H (upd H1 a.p (.dK (dd_pen (.ref a.c) (.int (at_ + 1)) (.int d) (.int (n + 1)) (.int f)))) := but1_upd b1
      have e2 : (upd H1 a.p (.dK (dd_pen (.ref a.c) (.int (at_ + 1)) (.int d) (.int (n + 1)) (.int f)))) a.p = some (.dK (dd_pen (.ref a.c) (.int (at_ + 1)) (.int d) (.int (n + 1)) (.int f))) := upd_same
      generalize upd H1 a.p (.dK (dd_pen (.ref a.c) (.int (at_ + 1)) (.int d) (.int (n + 1)) (.int f))) = H2 at b2 e2 ⊢
      generalize a.cells[at_] = cell
      have ce : ((at_ : Int) + 1) = ((at_ + 1 : Nat) : Int) := by omega
      refine ⟨_, rfl, _, _, rfl, rfl, ⟨by decide, by decide, by decide⟩, _, _, rfl, rfl, _, rfl, iteB (fun hc => ?_) (fun _ => ?_)⟩
      · have hc : cell ≥ (10 : Int) ^ (18 : Int).toNat := of_decide_eq_true hc
        refine ⟨_, rfl, _, _, rfl, rfl, ⟨by decide, by decide, by decide⟩, _, _, rfl, rfl, _, rfl, a.p, _, rfl, DPut.k (k := Sum.inr "digits") e2 z15, ?_⟩
        rw [dd_pen_put_digits, ce]
        exact ⟨_, _, _, _, rfl, but1_upd b2, upd_same, by omega, hf, hf2⟩
      · refine ⟨_, rfl, a.p, _, rfl, (get e2).2.2.2.2, _, _, rfl, rfl, .inl ⟨by omega, by omega⟩, _, rfl, _, _, rfl, rfl, .inl ⟨_, rfl, _, _, rfl, rfl, (by show (0 : Int) < 2147483587; decide), _, rfl, a.p, _, rfl, DPut.k (k := Sum.inr "fold") e2 z15, ?_⟩⟩
        rw [dd_pen_put_fold, ce]
        exact ⟨_, _, _, _, rfl, but1_upd b2, upd_same, hd, Int.emod_nonneg _ (by decide), Int.emod_lt_of_pos _ (by decide)⟩
    · rintro σ H2 ⟨v2, at2, d2, f2, rfl, b2, e2, hd2, hf2, hf3⟩
      have fin : ∀ {H3 : Hp} {at3 : Nat} {d3 f3 : Int}, But1 a.p H H3 → H3 a.p = some (.dK (dd_pen (.ref a.c) (.int at3) (.int d3) (.int (n + 1)) (.int f3))) → 0 ≤ d3 → 0 ≤ f3 → f3 < 2147483587 → PenAt H3 a (n + 1) := fun b e h1 h2 h3 =>
        ⟨b _ _ ec cp, lc, _, _, _, e, h1, h2, h3⟩
      refine ⟨fun σ' H3 => ∃ (v2 : Option V), σ' = [some (.ref a.p), some (.int many), v2, none, none] ∧ H3 = H2, ?_, ?_⟩
      · refine ⟨_, rfl, a.p, _, rfl, (get e2).2.2.1, _, _, rfl, rfl, _, rfl, iteB (fun hp => ?_) (fun _ => ⟨_, rfl, rfl⟩)⟩
        have hp : 0 < d2 := of_decide_eq_true hp
        refine ⟨_, rfl, a.p, _, rfl, (get e2).2.2.1, .inl ⟨_, rfl, _, rfl, _, _, rfl, rfl, (by show (0 : Int) < many; omega), ?_⟩⟩
        refine ⟨_, rfl, a.p, _, rfl, (get e2).2.2.1, _, rfl, _, _, rfl, rfl, ⟨by omega, by omega⟩, _, rfl, a.p, _, rfl, DPut.k (k := Sum.inr "digits") e2 z15, ?_⟩
        rw [dd_pen_put_digits]
        refine ⟨_, rfl, q _ _ (but1_upd b2) (fin (but1_upd b2) upd_same (Int.ediv_nonneg hd2 (by omega)) hf2 hf3) (Int.emod_nonneg _ (by omega)) (Int.emod_lt_of_pos _ (by omega))⟩
      · rintro σ' H3 ⟨v2, rfl, rfl⟩
        refine ⟨_, rfl, a.p, _, rfl, (get e2).2.2.2.2, _, rfl, a.p, _, rfl, (get e2).2.2.2.1, _, _, rfl, rfl, .inl ⟨by omega, by omega⟩, _, _, rfl, rfl, _, _, rfl, rfl, ?_⟩
        refine ⟨_, rfl, _, _, rfl, rfl, ⟨by decide, by decide, by omega⟩, _, _, rfl, rfl, (by show (0 : Int) < 2305843009213693951; decide), .inl ⟨_, rfl, _, _, rfl, rfl, ⟨by decide, by decide⟩, _, rfl, _, _, rfl, rfl, (by show (0 : Int) < many; omega), ?_⟩⟩
        exact q _ _ b2 (fin b2 e2 hd2 hf2 hf3) (Int.emod_nonneg _ (by omega)) (Int.emod_lt_of_pos _ (by omega))
end
end Lv
set_option maxHeartbeats 4000000
namespace Lv
open PySem PySem.Spec PyProof.Rows L2
theorem eraseIdx_perm {α : Type} : ∀ (l : List α) (i : Nat) (h : i < l.length), (l[i] :: l.eraseIdx i).Perm l
  | x :: l, 0, _ => .refl _
  | x :: l, i + 1, h => by
    have h2 : i < l.length := by simpa using h
    show (l[i] :: x :: l.eraseIdx i).Perm (x :: l)
    exact (List.Perm.swap _ _ _).trans ((eraseIdx_perm l i h2).cons x)
section
variable {J : It} {n : Nat} {G : Hp → Prop} {Y : Nat → Hp → V → Hp → Prop} {S : Addr → Prop}
def LcB (S : Addr → Prop) (H1 : Hp) (D : Addr) (R : Nat → List V → Hp → Prop) (i : Nat) (H : Hp) : Prop := ∃ l : List V, l.length ≤ i ∧ But S H1 H ∧ H D = some (.lst l) ∧ R i l H
theorem lc_relB (wk : Walk J n G Y) {g : TG} {tt : TT} {te : TE} {vs : List Nat} {σ : L2.St} {H1 : Hp} {D : Addr} {Qd : Hp → Prop} (S : Addr → Prop) (R : Nat → List V → Hp → Prop) (hD : H1 D = none) (hG : ∀ H, But S H1 H → G H)
    (h0 : R 0 [] (upd H1 D (.lst [])))
    (hs : ∀ i x l H H', i < n → l.length ≤ i → But S H1 H → H D = some (.lst l) → R i l H → Y i H x H' → g x (wipe σ vs) H' fun σ2 H2 => wipe σ2 vs = wipe σ vs ∧ tt σ2 H2 fun b H3 =>
      if b = true then te σ2 H3 fun y H4 => ∃ acc, H4 D = some (.lst acc) ∧ acc.length < sizeLine ∧ LcB S H1 D R (i + 1) (upd H4 D (.lst (acc ++ [y]))) else LcB S H1 D R (i + 1) H3)
    (hd : ∀ l H, l.length ≤ n → But S H1 H → H D = some (.lst l) → R n l H → Qd H) :
    ∃ W : Nat → Nat → Hp → Prop, (∃ m, W 0 m (upd H1 D (.lst []))) ∧ ∀ i m H, W i m H →
      (J.stop i H ∧ Qd H) ∨ (J.go i H ∧ ∃ Nx : Hp → Prop, (∀ H', Nx H' → ∃ m', m' < m ∧ W (i + 1) m' H') ∧ ∀ x H', J.yld i H x H' → g x (wipe σ vs) H' fun σ2 H2 => wipe σ2 vs = wipe σ vs ∧ tt σ2 H2 fun b H3 =>
        if b = true then te σ2 H3 fun y H4 => ∃ acc, H4 D = some (.lst acc) ∧ acc.length < sizeLine ∧ Nx (upd H4 D (.lst (acc ++ [y]))) else Nx H3) :=
  lc_it wk (LcB S H1 D R) ⟨[], Nat.le_refl _, but_same (same_new hD), upd_same, h0⟩ (fun _ H _ ⟨_, _, s, _⟩ => hG H s) (fun i x H H' hi ⟨l, hl, s, e, r⟩ y => hs i x l H H' hi hl s e r y) fun H ⟨l, hl, s, e, r⟩ => hd l H hl s e r
theorem lc_takeB {H1 H4 : Hp} {D : Addr} {R : Nat → List V → Hp → Prop} {i : Nat} {l : List V} {y : V} (hD : H1 D = none) (hz : i < sizeLine) (hl : l.length ≤ i) (s : But S H1 H4) (e : H4 D = some (.lst l)) (r : R (i + 1) (l ++ [y]) (upd H4 D (.lst (l ++ [y])))) :
    ∃ acc, H4 D = some (.lst acc) ∧ acc.length < sizeLine ∧ LcB S H1 D R (i + 1) (upd H4 D (.lst (acc ++ [y]))) :=
  ⟨l, e, by omega, l ++ [y], by simp; omega, s.upd_free hD, upd_same, r⟩
theorem lc_skipB {H1 H4 : Hp} {D : Addr} {R : Nat → List V → Hp → Prop} {i : Nat} {l : List V} (hl : l.length ≤ i) (s : But S H1 H4) (e : H4 D = some (.lst l)) (r : R (i + 1) l H4) : LcB S H1 D R (i + 1) H4 := ⟨l, by omega, s, e, r⟩
end
theorem PenAt.p_occ {H : Hp} {a : PenA} {n : Nat} (h : PenAt H a n) : H a.p ≠ none := by
  obtain ⟨_, _, _, _, _, e, _⟩ := h
  rw [e]
  exact fun z => nomatch z
theorem PenAt.c_occ {H : Hp} {a : PenA} {n : Nat} (h : PenAt H a n) : H a.c ≠ none := by
  rw [h.1]
  exact fun z => nomatch z
theorem PenAt.ne {H : Hp} {a : PenA} {n : Nat} {b : Addr} {o : HO} (h : PenAt H a n) (e : H b = some o) (k : ∀ kv, o ≠ .dK kv) : b ≠ a.p := fun z => by
  obtain ⟨_, _, _, _, _, e2, _⟩ := h
  rw [z, e2] at e
  exact k _ (Option.some.inj e).symm
theorem PenAt.ne_new {H : Hp} {a : PenA} {n : Nat} {b : Addr} (h : PenAt H a n) (e : H b = none) : b ≠ a.p ∧ b ≠ a.c := ⟨fun z => h.p_occ (by rw [← z]; exact e), fun z => h.c_occ (by rw [← z]; exact e)⟩
theorem PenAt.upd {H0 H : Hp} {a : PenA} {n m : Nat} {b : Addr} {o : HO} (h0 : PenAt H0 a n) (h : PenAt H a m) (e : H0 b = none) : PenAt (L2.upd H b o) a m :=
  h.but (S := (· = b)) (but_mut rfl) (fun z => (h0.ne_new e).1 z.symm) fun z => (h0.ne_new e).2 z.symm
section
variable {P : Program} {w : World} {K : PySem.W.Frag} {mg : Str → Option Value} {base : Heap}
def sp_law_pen : Sp := sp1 fun v H Q => ∃ (l : Addr) (ns : List Int), v = .ref l ∧ SqL K H l (ns.map V.int) ∧ ns.length ≤ 1000 ∧ ∀ (H' : Hp) (a : PenA), Same H H' → PenAt H' a 0 → H a.p = none → H a.c = none → Q (.ref a.p) H'
abbrev N__law_pen : List Str := ["script", "fold", "cell"]
theorem sc__law_pen : FnScope N__law_pen ["script"] (defScope s__law_pen) := ⟨rfl, rfl, rfl, by decide +kernel, rfl, by decide +kernel, by decide +kernel⟩
theorem ok__law_pen (T : Txt K mg) : CallOk P w K mg base 1 "_law_pen" ["script"] [] (sp_law_pen (K := K)) := by
  refine call_ok T 70 T.g__law_pen sc__law_pen (fun vs H Q E h => ?_) (fun f cdv A outer s H vs Q E hr h => ?_) (fun _ _ _ _ _ _ us hl => match us, hl with | [_], _ => rfl)
  · obtain ⟨x0, rfl, _⟩ := h
    rfl
  · have nd := sc__law_pen.nd
    have hu := hu_of hr
    have hu64 := hu64_of hr
    obtain ⟨x0, rfl, h⟩ := h
    refine ⟨_, (pss_cons (ps_set (i := 1) nd rfl (Or.inl rfl) pe_int) (pss_cons (ps_for PassesOwn.never rfl (pi_list (pv 0)) (pg_name (i := 2) nd rfl (Or.inl rfl)) (pss_one (ps_set (i := 1) nd rfl (Or.inl rfl) (pe_op op_mod (pe_callTy call_int1 (by rfl) T.b_int boot_int (pa_cons (pe_op op_add (pe_op op_mul (pv 1) pe_int) (pv 2)) pa_nil)) pe_int)))) (pss_one (ps_ret (pe_disp (pps_cons pe_str (pe_callTy (listOfK (K := K)) (by rfl) T.b_list boot_list (pa_cons (pv 0) pa_nil)) (pps_cons pe_str pe_int (pps_cons pe_str pe_int (pps_cons pe_str pe_int (pps_cons pe_str (pv 1) pps_nil))))) (by rfl) (by rfl) (fun z => by cases z) (by decide)))))), ?_⟩
    obtain ⟨l, ns, rfl, e, hl, q⟩ := h
    refine ⟨_, rfl, l, rfl, ⟨_, e⟩, for_it walk_list (fun i σ H2 => ∃ (f : Int) (v : Option V), σ = [some (.ref l), some (.int f), v] ∧ 0 ≤ f ∧ f < 2147483587 ∧ H2 = H) ⟨0, _, rfl, by decide, by decide, rfl⟩ (fun i σ H2 _ ⟨_, _, _, _, _, e2⟩ => by rw [e2]; exact e) ?_ ?_⟩
    · rintro i x σ H2 H3 hi ⟨f, v, rfl, h0, h1, rfl⟩ ⟨rfl, hx⟩
      obtain ⟨n, hn, rfl⟩ := getMap hx
      exact ⟨_, rfl, _, _, rfl, rfl, .inl ⟨by omega, by omega⟩, _, rfl, _, _, rfl, rfl, .inl ⟨_, rfl, _, _, rfl, rfl, (by show (0 : Int) < 1000000021; decide), _, _, rfl, Int.emod_nonneg _ (by decide), by have := Int.emod_lt_of_pos (f * 59 + n) (show (0 : Int) < 1000000021 by decide); omega, rfl⟩⟩
    · rintro σ H2 ⟨f, v, rfl, h0, h1, rfl⟩
      refine fun p hp => ⟨_, rfl, l, _, rfl, .inl (SqL.at (fun _ z => same_new hp _ _ z) e), fun c hc => ⟨_, rfl, ?_⟩⟩
      have pc : p ≠ c := fun z => by rw [← z, upd_same] at hc; cases hc
      refine ⟨by rw [upd_ne pc]; exact upd_same, dd_pen (.ref c) (.int 0) (.int 0) (.int 0) (.int f), rfl, by show 5 ≤ 15; decide, ?_⟩
      rw [dd_pen_mk]
      have c0 : H2 c = none := by
        rw [upd_ne pc.symm] at hc
        exact hc
      refine q _ ⟨p, c, ns⟩ (same_upd (same_upd (same_new hp) c0) hp) ⟨by rw [upd_ne pc.symm]; exact upd_same, hl, 0, 0, f, upd_same, by decide, h0, h1⟩ hp c0
def sp_law_pick : Sp := sp2 fun v x0 H Q => ∃ (a : PenA) (n : Nat) (l : Addr) (xs : List V), v = .ref a.p ∧ PenAt H a n ∧ n ≤ 1000000 ∧ x0 = .ref l ∧ H l = some (.lst xs) ∧ 1 ≤ xs.length ∧ xs.length ≤ 1000 ∧ ∀ (H' : Hp) (y : V), But1 a.p H H' → PenAt H' a (n + 1) → y ∈ xs → Q y H'
abbrev N__law_pick : List Str := ["pen", "some"]
theorem sc__law_pick : FnScope N__law_pick ["pen", "some"] (defScope s__law_pick) := ⟨rfl, rfl, rfl, by decide +kernel, rfl, by decide +kernel, by decide +kernel⟩
theorem ok__law_pick (T : Txt K mg) : CallOk P w K mg base 2 "_law_pick" ["pen", "some"] [] (sp_law_pick) := by
  refine call_ok T 72 T.g__law_pick sc__law_pick (fun vs H Q E h => ?_) (fun f cdv A outer s H vs Q E hr h => ?_) (fun _ _ _ _ _ _ us hl => match us, hl with | [_, _], _ => rfl)
  · obtain ⟨x0, x1, rfl, _⟩ := h
    rfl
  · have nd := sc__law_pick.nd
    have hu := hu_of hr
    have hu64 := hu64_of hr
    have c__law_draw := ok__law_draw (P := P) (w := w) (base := base) T
    obtain ⟨x0, x1, rfl, h⟩ := h
    refine ⟨_, (pss_one (ps_ret (pe_ix (ixL (K := K)) (pv 1) (pe_callO c__law_draw (hr.mono (by first | decide | omega)) (pa_cons (pv 0) (pa_cons (pe_callB (lenSK (K := K)) (by rfl) T.b_len boot_len (pa_cons (pv 1) pa_nil)) pa_nil))) (fun _ _ => rfl)))), ?_⟩
    obtain ⟨a, n, l, xs, rfl, pa, hn, rfl, e, l1, l2, q⟩ := h
    refine ⟨_, rfl, _, rfl, _, rfl, l, _, rfl, .inl (SqL.of e), _, _, rfl, a, n, _, rfl, pa, hn, rfl, by omega, by omega, fun H1 k b1 pa1 k0 k1 => ?_⟩
    have e1 := b1 _ _ e (pa.ne e (by intro _ z; cases z))
    have hk : k.toNat < xs.length := by omega
    have ek : k = ((k.toNat : Nat) : Int) := by omega
    rw [ek]
    exact ⟨l, _, _, _, rfl, rfl, SqL.of e1, atI_nat (j := k.toNat) (List.getElem?_eq_getElem hk), q _ _ b1 pa1 (List.getElem_mem hk)⟩
def sp_law_shuffled : Sp := sp2 fun v x0 H Q => ∃ (a : PenA) (n : Nat) (l : Addr) (xs : List V), v = .ref a.p ∧ PenAt H a n ∧ n + xs.length ≤ 1000000 ∧ x0 = .ref l ∧ H l = some (.lst xs) ∧ xs.length ≤ 1000 ∧ ∀ (H' : Hp) (r : Addr) (ys : List V), But1 a.p H H' → PenAt H' a (n + xs.length) → H r = none → H' r = some (.lst ys) → ys.Perm xs → Q (.ref r) H'
abbrev N__law_shuffled : List Str := ["pen", "some", "left", "found", "lap"]
theorem sc__law_shuffled : FnScope N__law_shuffled ["pen", "some"] (defScope s__law_shuffled) := ⟨rfl, rfl, rfl, by decide +kernel, rfl, by decide +kernel, by decide +kernel⟩
theorem ok__law_shuffled (T : Txt K mg) : CallOk P w K mg base 2 "_law_shuffled" ["pen", "some"] [] (sp_law_shuffled) := by
  refine call_ok T 73 T.g__law_shuffled sc__law_shuffled (fun vs H Q E h => ?_) (fun f cdv A outer s H vs Q E hr h => ?_) (fun _ _ _ _ _ _ us hl => match us, hl with | [_, _], _ => rfl)
  · obtain ⟨x0, x1, rfl, _⟩ := h
    rfl
  · have nd := sc__law_shuffled.nd
    have hu := hu_of hr
    have hu64 := hu64_of hr
    have c__law_draw := ok__law_draw (P := P) (w := w) (base := base) T
    obtain ⟨x0, x1, rfl, h⟩ := h
    refine ⟨_, (pss_cons (ps_par (i := 2) (j := 3) rfl nd rfl rfl (by decide) rfl rfl (pa_cons (pe_callTy (listOfK (K := K)) (by rfl) T.b_list boot_list (pa_cons (pv 1) pa_nil)) (pa_cons (pe_lst pa_nil) pa_nil)) (by rfl)) (pss_cons (ps_for PassesOwn.never rfl (pi_range1 (by rfl) T.b_range (pa_cons (pe_callB (lenSK (K := K)) (by rfl) T.b_len boot_len (pa_cons (pv 1) pa_nil)) pa_nil)) (pg_name (i := 4) nd rfl (Or.inl rfl)) (pss_one (ps_expr (pe_bm PySem.F.plainAttrs_list PySem.F.slot_list_append PySem.F.type_list_append mt_append (pv 3) (pa_cons (pe_bm PySem.F.plainAttrs_list PySem.F.slot_list_pop PySem.F.type_list_pop mt_popAt (pv 2) (pa_cons (pe_callO c__law_draw (hr.mono (by first | decide | omega)) (pa_cons (pv 0) (pa_cons (pe_callB (lenSK (K := K)) (by rfl) T.b_len boot_len (pa_cons (pv 2) pa_nil)) pa_nil))) pa_nil)) pa_nil))))) (pss_one (ps_ret (pv 3))))), ?_⟩
    obtain ⟨a, n, l, xs, rfl, pa, hn, rfl, e, l2, q⟩ := h
    refine ⟨_, rfl, l, _, rfl, .inl (SqL.of e), fun c hc => ?_⟩
    refine ⟨by decide, fun f hf => ⟨_, _, rfl, ?_⟩⟩
    have cf : f ≠ c := fun z => by rw [z, upd_same] at hf; cases hf
    have f0 : H f = none := by
      rw [upd_ne cf] at hf
      exact hf
    have s0 : Same H (upd (upd H c (.lst xs)) f (.lst [])) := same_upd (same_new hc) f0
    have ec : (upd (upd H c (.lst xs)) f (.lst [])) c = some (.lst xs) := by rw [upd_ne cf.symm]; exact upd_same
    have ef : (upd (upd H c (.lst xs)) f (.lst [])) f = some (.lst []) := upd_same
    generalize upd (upd H c (.lst xs)) f (.lst []) = H1 at s0 ec ef ⊢
    have z1001 : (1001 : Nat) ≤ sizeLine := by decide
    refine ⟨_, rfl, l, _, rfl, .inl (SqL.of (s0 _ _ e)), xs.length, rfl, by omega, by omega, for_it walk_range (fun i σ H2 => ∃ (v4 : Option V) (left found : List V), σ = [some (.ref a.p), some (.ref l), some (.ref c), some (.ref f), v4] ∧ But1 a.p H H2 ∧ PenAt H2 a (n + i) ∧ H2 c = some (.lst left) ∧ H2 f = some (.lst found) ∧ found.length = i ∧ left.length = xs.length - i ∧ (found ++ left).Perm xs)
      ⟨_, xs, [], rfl, but_same s0, pa.same s0, ec, ef, rfl, rfl, .refl _⟩ (fun _ _ _ _ _ => trivial) ?_ ?_⟩
    · rintro i x σ H2 H3 hi ⟨v4, left, found, rfl, b, pa2, ec2, ef2, lf, ll, hp⟩ ⟨rfl, rfl⟩
      have hl0 : 0 < left.length := by omega
      refine ⟨_, rfl, .inl ⟨rfl, _, SqL.of ef2⟩, _, rfl, .inl ⟨rfl, _, SqL.of ec2⟩, _, rfl, _, rfl, c, _, rfl, .inl (SqL.of ec2), _, _, rfl, a, n + i, _, rfl, pa2, by omega, rfl, by omega, by omega, fun H4 k b4 pa4 k0 k1 => ?_⟩
      have hk : k.toNat < left.length := by omega
      have ec4 := b4 _ _ ec2 (pa2.ne ec2 (by intro _ z; cases z))
      have ef4 := b4 _ _ ef2 (pa2.ne ef2 (by intro _ z; cases z))
      refine ⟨c, left, k, k.toNat, left[k.toNat], rfl, rfl, ec4, by omega, by omega, seqIndex_of k0 k1, List.getElem?_eq_getElem hk, ?_⟩
      have b5 : But1 a.p H (upd H4 c (.lst (left.eraseIdx k.toNat))) := (b.trans b4).upd_free hc
      refine ⟨f, _, _, rfl, rfl, by rw [upd_ne cf]; exact ef4, by omega, _, left.eraseIdx k.toNat, found ++ [left[k.toNat]], rfl, b5.upd_free f0, pa.upd (pa.upd pa4 hc) f0, by rw [upd_ne cf.symm]; exact upd_same, upd_same, by simp; omega, by rw [List.length_eraseIdx_of_lt hk]; omega, ?_⟩
      rw [List.append_assoc]
      exact (List.Perm.append_left found (eraseIdx_perm left _ hk)).trans hp
    · rintro σ H2 ⟨v4, left, found, rfl, b, pa2, ec2, ef2, lf, ll, hp⟩
      have e0 : left = [] := List.length_eq_zero_iff.mp (by omega)
      rw [e0, List.append_nil] at hp
      simp at pa2
      exact ⟨_, rfl, q _ _ _ b pa2 f0 ef2 hp⟩
end
end Lv
set_option maxHeartbeats 4000000
namespace Lv
open PySem PySem.Spec PyProof.Rows L2
theorem lets : lettersS.cps.toList = (List.range 26).map (97 + ·) := by decide +kernel
theorem let_iff {c : Nat} : c ∈ lettersS.cps.toList ↔ 97 ≤ c ∧ c ≤ 122 := by
  rw [lets, List.mem_map]
  constructor
  · rintro ⟨k, hk, rfl⟩
    have := List.mem_range.mp hk
    omega
  · rintro ⟨h1, h2⟩
    exact ⟨c - 97, List.mem_range.mpr (by omega), by omega⟩
theorem figs : ("0123456789" : Str).cps.toList = (List.range 10).map (48 + ·) := by decide +kernel
theorem dig_str : ∀ i < 10, (toString ((i : Nat) : Int) : Str).cps.toList = [48 + i] := by decide +kernel
theorem new_str : ("new" : Str).cps.toList = [110, 101, 119] := by decide +kernel
theorem abc_list : ("abcdefghijklmnopqrstuvwxyz" : Str).cps.toList = (List.range 26).map (97 + ·) := lets
theorem lets_get {k : Nat} (h : k < 26) : ("abcdefghijklmnopqrstuvwxyz" : Str).cps.toList[k]? = some (97 + k) := by
  rw [abc_list, List.getElem?_map, List.getElem?_range h]
  rfl
theorem abcLen : ("abcdefghijklmnopqrstuvwxyz" : Str).length ≤ sizeLine := Nat.le_trans (show _ ≤ 26 by decide +kernel) (by decide)
def NameI (i : Nat) (z : Str) : Prop := ∃ pre post : List Nat, z.cps.toList = pre ++ (48 + i) :: post ∧ pre ≠ [] ∧ (∀ c ∈ pre ++ post, 97 ≤ c ∧ c ≤ 122) ∧ pre.length + post.length ≤ 11
theorem NameI.len {i : Nat} {z : Str} (h : NameI i z) : 1 ≤ z.length ∧ z.length ≤ 12 := by
  obtain ⟨pre, post, e, _, _, l⟩ := h
  have : z.length = z.cps.toList.length := by simp [Str.length]
  rw [this, e, List.length_append, List.length_cons]
  omega
theorem NameI.ok {i : Nat} {z : Str} (hi : i < 10) (h : NameI i z) : nameOk z = true := by
  obtain ⟨l1, l2⟩ := h.len
  obtain ⟨pre, post, e, hp, hc, _⟩ := h
  unfold nameOk madeOf
  rw [decide_eq_true (show 1 ≤ (z.length : Int) ∧ (z.length : Int) ≤ 12 by omega), Bool.true_and, Bool.and_eq_true]
  constructor
  · rw [List.all_eq_true]
    intro c hcm
    refine decide_eq_true ?_
    show c ∈ (lettersS ++ ("0123456789" : Str)).cps.toList
    rw [Str.cps_append, Array.toList_append, List.mem_append]
    rw [e] at hcm
    rcases List.mem_append.mp hcm with q | q
    · exact .inl (let_iff.mpr (hc c (List.mem_append_left _ q)))
    · rcases List.mem_cons.mp q with rfl | q
      · refine .inr ?_
        rw [figs, List.mem_map]
        exact ⟨i, List.mem_range.mpr hi, rfl⟩
      · exact .inl (let_iff.mpr (hc c (List.mem_append_right _ q)))
  · rw [e]
    cases pre with
    | nil => exact absurd rfl hp
    | cons c r =>
      show decide (c ∈ lettersS.cps.toList) = true
      exact decide_eq_true (let_iff.mpr (hc c (by simp)))
theorem NameI.inj {i j : Nat} {z : Str} (hi : i < 10) (hj : j < 10) (h : NameI i z) (g : NameI j z) : i = j := by
  have key : ∀ {k : Nat}, k < 10 → NameI k z → z.cps.toList.filter (fun c => decide (c < 97)) = [48 + k] := by
    rintro k hk ⟨pre, post, e, _, hc, _⟩
    rw [e, List.filter_append, List.filter_cons_of_pos (by simp; omega)]
    rw [List.filter_eq_nil_iff.mpr fun c hcm => by simp; exact (hc c (List.mem_append_left _ hcm)).1, List.filter_eq_nil_iff.mpr fun c hcm => by simp; exact (hc c (List.mem_append_right _ hcm)).1]
    rfl
  have e := (key hi h).symm.trans (key hj g)
  have := (List.cons.inj e).1
  omega
theorem cut_lo {z : Str} {k : Nat} (h : k ≤ z.length) : (cutS z none (some (k : Int))).cps.toList = z.cps.toList.take k := by
  unfold cutS
  rw [HT.sIx_none, HT.sIx_nat]
  simp [Nat.min_eq_left h]
theorem cut_hi {z : Str} {k : Nat} (h : k ≤ z.length) : (cutS z (some (k : Int)) none).cps.toList = z.cps.toList.drop k := by
  unfold cutS
  rw [HT.sIx_none, HT.sIx_nat]
  have e : z.length = z.cps.toList.length := by simp [Str.length]
  simp only [Nat.min_eq_left h]
  refine List.take_of_length_le ?_
  rw [List.length_drop, e]
  exact Nat.le_refl _
section
variable {P : Program} {w : World} {K : PySem.W.Frag} {mg : Str → Option Value} {base : Heap}
def sp_law_name : Sp := sp2 fun v x0 H Q => ∃ (a : PenA) (n i : Nat), v = .ref a.p ∧ PenAt H a n ∧ n + 12 ≤ 1000000 ∧ x0 = .int i ∧ i < 10 ∧ ∀ (H' : Hp) (n' : Nat) (z : Str), But1 a.p H H' → PenAt H' a n' → n' ≤ n + 12 → NameI i z → Q (.str z) H'
abbrev N__law_name : List Str := ["pen", "index", "word", "spot", "place"]
theorem sc__law_name : FnScope N__law_name ["pen", "index"] (defScope s__law_name) := ⟨rfl, rfl, rfl, by decide +kernel, rfl, by decide +kernel, by decide +kernel⟩
theorem ok__law_name (T : Txt K mg) : CallOk P w K mg base 2 "_law_name" ["pen", "index"] [] sp_law_name := by
  refine call_ok T 74 T.g__law_name sc__law_name (fun vs H Q E h => ?_) (fun f cdv A outer s H vs Q E hr h => ?_) (fun _ _ _ _ _ _ us hl => match us, hl with | [_, _], _ => rfl)
  · obtain ⟨x0, x1, rfl, _⟩ := h
    rfl
  · have nd := sc__law_name.nd
    have hu := hu_of hr
    have hu64 := hu64_of hr
    have c__law_draw := ok__law_draw (P := P) (w := w) (base := base) T
    obtain ⟨x0, x1, rfl, h⟩ := h
    refine ⟨_, (pss_cons (ps_if (pt_cmpR op_eq (pe_callO c__law_draw (hr.mono (by first | decide | omega)) (pa_cons (pv 0) (pa_cons pe_int pa_nil))) pe_int (nomark _)) (pss_one (ps_ret (pe_op op_add_str pe_str (pe_callTy call_str_int (by rfl) T.b_str boot_str (pa_cons (pv 1) pa_nil))))) pss_nil) (pss_cons (ps_set (i := 2) nd rfl (Or.inl rfl) pe_str) (pss_cons (ps_for PassesOwn.never rfl (pi_range1 (by rfl) T.b_range (pa_cons (pe_op op_add pe_int (pe_callO c__law_draw (hr.mono (by first | decide | omega)) (pa_cons (pv 0) (pa_cons pe_int pa_nil)))) pa_nil)) (pg_name (i := 3) nd rfl (Or.inl rfl)) (pss_one (ps_set (i := 2) nd rfl (Or.inl rfl) (pe_op op_add_str (pv 2) (pe_ix ix_str pe_str (pe_callO c__law_draw (hr.mono (by first | decide | omega)) (pa_cons (pv 0) (pa_cons pe_int pa_nil))) (fun _ _ => rfl)))))) (pss_cons (ps_set (i := 4) nd rfl (Or.inl rfl) (pe_op op_add pe_int (pe_callO c__law_draw (hr.mono (by first | decide | omega)) (pa_cons (pv 0) (pa_cons (pe_callB call_len_str (by rfl) T.b_len boot_len (pa_cons (pv 2) pa_nil)) pa_nil))))) (pss_one (ps_ret (pe_op op_add_str (pe_op op_add_str (pe_slice sl_str (pv 2) po_none (po_some (pv 4))) (pe_callTy call_str_int (by rfl) T.b_str boot_str (pa_cons (pv 1) pa_nil))) (pe_slice sl_str (pv 2) (po_some (pv 4)) po_none)))))))), ?_⟩
    obtain ⟨a, n, i, rfl, pa, hn, rfl, hi, q⟩ := h
    have z1001 : (1001 : Nat) ≤ sizeLine := by decide
    have l2i : (i : Int).natAbs.log2 < 1920 := by
      rw [Int.natAbs_natCast]
      exact Nat.lt_of_le_of_lt (Nat.log2_le_self i) (by omega)
    refine ⟨_, rfl, _, _, rfl, a, n, 9, rfl, pa, by omega, rfl, by decide, by decide, fun H1 k b1 pa1 k0 k1 => ⟨rfl, _, rfl, iteB (fun _ => ?_) (fun _ => ?_)⟩⟩
    · refine ⟨_, rfl, i, rfl, l2i, _, _, rfl, rfl, ?_, q _ _ _ b1 pa1 (by omega) ⟨[110, 101, 119], [], ?_, by simp, by simp, by simp⟩⟩
      · have e : (toString (i : Int) : Str).length = 1 := by
          have e2 : (toString (i : Int) : Str).length = (toString (i : Int) : Str).cps.toList.length := by simp [Str.length]
          rw [e2, dig_str i hi]
          rfl
        have e3 : ("new" : Str).length = 3 := by decide +kernel
        omega
      · rw [Str.cps_append, Array.toList_append, new_str, dig_str i hi]
    · refine ⟨_, rfl, _, _, rfl, a, n + 1, 9, rfl, pa1, by omega, rfl, by decide, by decide, fun H2 k2 b2 pa2 k20 k21 => ⟨_, _, rfl, rfl, 1 + k2, rfl, by omega, by omega, for_it walk_range (fun j σ H3 => ∃ (v3 : Option V) (w : Str), σ = [some (.ref a.p), some (.int i), some (.str w), v3, none] ∧ But1 a.p H H3 ∧ PenAt H3 a (n + 2 + j) ∧ w.cps.toList.length = j ∧ ∀ c ∈ w.cps.toList, 97 ≤ c ∧ c ≤ 122)
        ⟨_, _, rfl, b1.trans b2, pa2, by decide +kernel, fun c hc => ?_⟩ (fun _ _ _ _ _ => trivial) ?_ ?_⟩⟩
      · have e : ("" : Str).cps.toList = [] := by decide +kernel
        rw [e] at hc
        cases hc
      · rintro j x σ H3 H4 hj ⟨v3, w, rfl, b3, pa3, lw, hw⟩ ⟨rfl, rfl⟩
        refine ⟨_, rfl, _, rfl, _, _, rfl, a, n + 2 + j, 26, rfl, pa3, by omega, rfl, by decide, by decide, fun H5 k5 b5 pa5 k50 k51 => ?_⟩
        have ek : k5 = ((k5.toNat : Nat) : Int) := by omega
        rw [ek]
        have lw2 : w.length = j := by
          have e : w.length = w.cps.toList.length := by simp [Str.length]
          rw [e, lw]
        refine ⟨_, _, _, rfl, rfl, abcLen, atI_nat (j := k5.toNat) (lets_get (by omega)), _, _, rfl, rfl, ?_, _, _, rfl, b3.trans b5, pa5, ?_, fun c hc => ?_⟩
        · show w.length + 1 ≤ sizeLine
          omega
        · rw [Str.cps_append, Array.toList_append, List.length_append, lw]
          rfl
        · rw [Str.cps_append, Array.toList_append] at hc
          rcases List.mem_append.mp hc with hc | hc
          · exact hw c hc
          · have hc : c = 97 + k5.toNat := by simpa using hc
            omega
      · rintro σ H3 ⟨v3, w, rfl, b3, pa3, lw, hw⟩
        have lw2 : w.length = (1 + k2).toNat := by
          have e : w.length = w.cps.toList.length := by simp [Str.length]
          rw [e, lw]
        refine ⟨_, rfl, _, rfl, w, rfl, by omega, _, _, rfl, a, _, _, rfl, pa3, by omega, rfl, by omega, by omega, fun H4 k4 b4 pa4 k40 k41 => ⟨_, _, rfl, rfl, ?_⟩⟩
        obtain ⟨k, rfl⟩ : ∃ k : Nat, k4 = (k : Int) := ⟨k4.toNat, by omega⟩
        have ek : (1 + (k : Int)) = ((1 + k : Nat) : Int) := by omega
        have hk : 1 + k ≤ w.length := by omega
        have e1 : (cutS w none (some (1 + (k : Int)))).cps.toList = w.cps.toList.take (1 + k) := by rw [ek]; exact cut_lo hk
        have e2 : (cutS w (some (1 + (k : Int))) none).cps.toList = w.cps.toList.drop (1 + k) := by rw [ek]; exact cut_hi hk
        have el : w.cps.toList.length = w.length := by simp [Str.length]
        have c1 : (cutS w none (some (1 + (k : Int)))).length = 1 + k := by
          have e : (cutS w none (some (1 + (k : Int)))).length = (cutS w none (some (1 + (k : Int)))).cps.toList.length := by simp [Str.length]
          rw [e, e1, List.length_take, el]
          omega
        have c2 : (cutS w (some (1 + (k : Int))) none).length ≤ 9 := by
          have e : (cutS w (some (1 + (k : Int))) none).length = (cutS w (some (1 + (k : Int))) none).cps.toList.length := by simp [Str.length]
          rw [e, e2, List.length_drop, el]
          omega
        have c3 : (toString (i : Int) : Str).length = 1 := by
          have e3 : (toString (i : Int) : Str).length = (toString (i : Int) : Str).cps.toList.length := by simp [Str.length]
          rw [e3, dig_str i hi]
          rfl
        refine ⟨_, rfl, _, rfl, _, rfl, w, rfl, by omega, _, rfl, i, rfl, l2i, _, _, rfl, rfl, by omega, _, rfl, _, rfl, _, rfl, w, rfl, by omega, _, _, rfl, rfl, ?_, ?_⟩
        · rw [Str.length_append]
          omega
        · refine q _ _ _ (b3.trans b4) pa4 (by omega) ⟨w.cps.toList.take (1 + k), w.cps.toList.drop (1 + k), ?_, ?_, fun c hc => ?_, ?_⟩
          · rw [Str.cps_append, Array.toList_append, Str.cps_append, Array.toList_append, e1, e2, dig_str i hi, List.append_assoc]
            rfl
          · intro e
            have := congrArg List.length e
            rw [List.length_take, el] at this
            simp at this
            omega
          · rw [List.take_append_drop] at hc
            exact hw c hc
          · rw [← List.length_append, List.take_append_drop, el]
            omega
end
end Lv
set_option maxHeartbeats 4000000
namespace Lv
open PySem PySem.Spec PyProof.Rows L2
theorem int0 (i : Nat) : V.int (0 + (i : Int)) = V.int (i : Int) := by rw [Int.zero_add]
def NamesOk (zs : List Str) : Prop := zs.Nodup ∧ ∀ z ∈ zs, ∃ i, i < 10 ∧ NameI i z
theorem NamesOk.ok {zs : List Str} (h : NamesOk zs) : ∀ z ∈ zs, nameOk z = true := fun z hz => by
  obtain ⟨i, hi, hn⟩ := h.2 z hz
  exact hn.ok hi
theorem NamesOk.perm {zs ys : List Str} (p : ys.Perm zs) (h : NamesOk zs) : NamesOk ys := ⟨p.nodup_iff.mpr h.1, fun z hz => h.2 z (p.mem_iff.mp hz)⟩
theorem names_of {zs : List Str} (hl : zs.length ≤ 10) (h : ∀ (j : Nat) (z : Str), zs[j]? = some z → NameI j z) : NamesOk zs := by
  have lt : ∀ {j : Nat} {z : Str}, zs[j]? = some z → j < 10 := fun e => by
    have := (List.getElem?_eq_some_iff.mp e).1
    omega
  refine ⟨?_, fun z hz => ?_⟩
  · rw [List.nodup_iff_pairwise_ne, List.pairwise_iff_getElem]
    intro i j hi hj hij e
    have e1 : zs[i]? = some zs[i] := List.getElem?_eq_getElem hi
    have e2 : zs[j]? = some zs[i] := by rw [e]; exact List.getElem?_eq_getElem hj
    have := NameI.inj (lt e1) (lt e2) (h i _ e1) (h j _ e2)
    omega
  · obtain ⟨j, hj⟩ := List.getElem?_of_mem hz
    exact ⟨j, lt hj, h j z hj⟩
section
variable {P : Program} {w : World} {K : PySem.W.Frag} {mg : Str → Option Value} {base : Heap}
def sp_law_names : Sp := sp2 fun v x0 H Q => ∃ (a : PenA) (n many : Nat), v = .ref a.p ∧ PenAt H a n ∧ n + 200 ≤ 1000000 ∧ x0 = .int many ∧ many ≤ 10 ∧ ∀ (H' : Hp) (n' : Nat) (r : Addr) (zs : List Str), But1 a.p H H' → PenAt H' a n' → n' ≤ n + 130 → H r = none → H' r = some (.lst (zs.map V.str)) → NamesOk zs → zs.length = many → Q (.ref r) H'
abbrev N__law_names : List Str := ["pen", "many", "index"]
theorem sc__law_names : FnScope N__law_names ["pen", "many"] (defScope s__law_names) := ⟨rfl, rfl, rfl, by decide +kernel, rfl, by decide +kernel, by decide +kernel⟩
theorem ok__law_names (T : Txt K mg) : CallOk P w K mg base 3 "_law_names" ["pen", "many"] [] sp_law_names := by
  refine call_ok T 75 T.g__law_names sc__law_names (fun vs H Q E h => ?_) (fun f cdv A outer s H vs Q E hr h => ?_) (fun _ _ _ _ _ _ us hl => match us, hl with | [_, _], _ => rfl)
  · obtain ⟨x0, x1, rfl, _⟩ := h
    rfl
  · have nd := sc__law_names.nd
    have hu := hu_of hr
    have hu64 := hu64_of hr
    have c__law_name := ok__law_name (P := P) (w := w) (base := base) T
    have c__law_shuffled := ok__law_shuffled (P := P) (w := w) (base := base) T
    obtain ⟨x0, x1, rfl, h⟩ := h
    refine ⟨_, (pss_one (ps_ret (pe_callO c__law_shuffled (hr.mono (by first | decide | omega)) (pa_cons (pv 0) (pa_cons (pe_lc (own := [("index", 2)]) (g := (gName 2)) (tt := tYes) rfl nd (pi_range1 (by rfl) T.b_range (pa_cons (pv 1) pa_nil)) (blkOk_by (own := [("index", 2)]) (N := N__law_names) (sc := defScope s__law_names) (by decide +kernel)) (fun _ _ _ _ _ => (pg_name (i := 2) nd rfl (Or.inl rfl))) (fun _ _ _ _ _ => pts_nil) (fun _ _ _ _ _ => (pe_callO c__law_name (hr.mono (by first | decide | omega)) (pa_cons (pv 0) (pa_cons (pv 2) pa_nil))))) pa_nil))))), ?_⟩
    obtain ⟨a, n, many, rfl, pa, hn, rfl, hm, q⟩ := h
    have z1001 : (1001 : Nat) ≤ sizeLine := by decide
    refine ⟨_, rfl, _, rfl, many, rfl, by omega, by omega, fun D hD => lc_relB walk_range (· = a.p) (fun i l H2 => ∃ (n2 : Nat) (zs : List Str), PenAt H2 a n2 ∧ n2 ≤ n + 12 * i ∧ l = zs.map V.str ∧ zs.length = i ∧ ∀ (j : Nat) (z : Str), zs[j]? = some z → NameI j z) hD (fun _ _ => trivial) ⟨n, [], pa.upd pa hD, by omega, rfl, rfl, by simp⟩ ?_ ?_⟩
    · rintro i x l H2 H3 hi hl b e2 ⟨n2, zs, pa2, hn2, rfl, lz, hz⟩ ⟨rfl, rfl⟩
      refine ⟨rfl, _, rfl, _, rfl, _, _, rfl, a, n2, i, rfl, pa2, by omega, int0 i, by omega, fun H4 n4 z b4 pa4 hn4 hz4 => lc_takeB hD (by omega) hl (b.trans b4) (b4 _ _ e2 (pa2.ne e2 (by intro _ z; cases z))) ⟨n4, zs ++ [z], pa.upd pa4 hD, by omega, by simp, by simp [lz], fun j y hj => ?_⟩⟩
      by_cases h : j < zs.length
      · rw [List.getElem?_append_left h] at hj
        exact hz j y hj
      · rw [List.getElem?_append_right (by omega)] at hj
        have h2 : j - zs.length < 1 := by
          have := (List.getElem?_eq_some_iff.mp hj).1
          simpa using this
        have ej : j = i := by omega
        subst ej
        simp [lz] at hj
        rw [← hj]
        exact hz4
    · rintro l H2 hl b e2 ⟨n2, zs, pa2, hn2, rfl, lz, hz⟩
      have lz : zs.length = many := lz.trans (by omega)
      have hD2 : D ≠ a.p := fun z => pa.p_occ (by rw [← z]; exact hD)
      refine ⟨_, _, rfl, a, n2, D, _, rfl, pa2, by rw [List.length_map]; omega, rfl, e2, by rw [List.length_map]; omega, fun H3 r ys b3 pa3 hr er hp => ?_⟩
      obtain ⟨ys', hp', rfl⟩ := perm_map_inv hp zs rfl
      rw [List.length_map] at pa3
      exact q _ _ _ _ (b.trans b3) pa3 (by omega) (b.free hr fun z => pa2.p_occ (by rw [← z]; exact hr)) er ((names_of (by omega) hz).perm hp') (by rw [hp'.length_eq]; exact lz)
end
end Lv
set_option maxHeartbeats 4000000
namespace Lv
open PySem PySem.Spec PyProof.Rows L2
theorem PenAt.tk {H H' : Hp} {a : PenA} {n : Nat} (h : PenAt H a n) (b : But1 a.p H H') : Tk H H' := but_tk b fun x hx xs e => by
  obtain ⟨_, _, _, _, _, e2, _⟩ := h
  rw [hx, e2] at e
  cases e
theorem PenAt.lst {H H' : Hp} {a : PenA} {n : Nat} {x : Addr} {xs : List V} (h : PenAt H a n) (b : But1 a.p H H') (e : H x = some (.lst xs)) : H' x = some (.lst xs) := b _ _ e (h.ne e (by intro _ z; cases z))
theorem draw_of {H : Hp} {a : PenA} {n : Nat} {many : Int} {Q : VK} (pa : PenAt H a n) (hn : n ≤ 1000000) (h1 : 1 ≤ many) (h2 : many ≤ 1000000) (q : ∀ (H' : Hp) (k : Int), But1 a.p H H' → PenAt H' a (n + 1) → 0 ≤ k → k < many → Q (.int k) H') : sp_law_draw [.ref a.p, .int many] H Q E0 :=
  ⟨_, _, rfl, a, n, many, rfl, pa, hn, rfl, h1, h2, q⟩
theorem pick_of {H : Hp} {a : PenA} {n : Nat} {l : Addr} {xs : List V} {Q : VK} (pa : PenAt H a n) (hn : n ≤ 1000000) (e : H l = some (.lst xs)) (h1 : 1 ≤ xs.length) (h2 : xs.length ≤ 1000) (q : ∀ (H' : Hp) (y : V), But1 a.p H H' → PenAt H' a (n + 1) → y ∈ xs → Q y H') : sp_law_pick [.ref a.p, .ref l] H Q E0 :=
  ⟨_, _, rfl, a, n, l, xs, rfl, pa, hn, rfl, e, h1, h2, q⟩
theorem pick_new {H : Hp} {a : PenA} {n : Nat} {l : Addr} {xs : List V} {Q : VK} (pa : PenAt H a n) (hn : n ≤ 1000000) (hl : H l = none) (h1 : 1 ≤ xs.length) (h2 : xs.length ≤ 1000) (q : ∀ (H' : Hp) (y : V), But1 a.p H H' → PenAt H' a (n + 1) → y ∈ xs → Q y H') : sp_law_pick [.ref a.p, .ref l] (upd H l (.lst xs)) Q E0 :=
  pick_of (pa.same (same_new hl)) hn upd_same h1 h2 fun H' y b pa2 hy => q H' y ((but_same (same_new hl)).trans b) pa2 hy
theorem pick_ints {H : Hp} {a : PenA} {n : Nat} {l : Addr} {ns : List Int} {Q : VK} (pa : PenAt H a n) (hn : n ≤ 1000000) (hl : H l = none) (h1 : 1 ≤ ns.length) (h2 : ns.length ≤ 1000) (q : ∀ (H' : Hp) (k : Int), But1 a.p H H' → PenAt H' a (n + 1) → k ∈ ns → Q (.int k) H') : sp_law_pick [.ref a.p, .ref l] (upd H l (.lst (ns.map V.int))) Q E0 :=
  pick_new pa hn hl (by simpa using h1) (by simpa using h2) fun H' y b pa2 hy => by
    obtain ⟨k, hk, rfl⟩ := List.mem_map.mp hy
    exact q H' k b pa2 hk
def lendsI (ns : List Int) : Prop := (∀ n ∈ ns, 0 ≤ n ∧ n ≤ 24) ∧ ∀ (i : Nat) (x y : Int), ns[i]? = some x → ns[i + 1]? = some y → x ≤ y
theorem lends_snoc {ns : List Int} {x v : Int} (h : lendsI (ns ++ [x])) (h1 : x ≤ v) (h2 : v ≤ 24) : lendsI ((ns ++ [x]) ++ [v]) := by
  obtain ⟨a, b⟩ := h
  have hx := a x (by simp)
  refine ⟨fun n hn => ?_, fun i y z hy hz => ?_⟩
  · rcases List.mem_append.mp hn with hn | hn
    · exact a n hn
    · obtain rfl := List.mem_singleton.mp hn
      omega
  · have hi : i + 1 < ((ns ++ [x]) ++ [v]).length := (List.getElem?_eq_some_iff.mp hz).1
    simp at hi
    by_cases e : i + 1 < (ns ++ [x]).length
    · rw [List.getElem?_append_left e] at hz
      rw [List.getElem?_append_left (by omega)] at hy
      exact b i y z hy hz
    · simp at e
      have ei : i = ns.length := by omega
      subst ei
      rw [List.getElem?_append_right (by simp)] at hz
      rw [List.getElem?_append_left (by simp), List.getElem?_append_right (by simp)] at hy
      simp at hy hz
      omega
section
variable {P : Program} {w : World} {K : PySem.W.Frag} {mg : Str → Option Value} {base : Heap}
def sp_law_some_ladder : Sp := sp1 fun v H Q => ∃ (a : PenA) (n : Nat), v = .ref a.p ∧ PenAt H a n ∧ n + 100 ≤ 1000000 ∧ ∀ (H' : Hp) (n' : Nat) (r : Addr) (ns : List Int) (ps : List (Int × Int)), But1 a.p H H' → PenAt H' a n' → n' ≤ n + 50 → Tv H' (.tup [.tup (ns.map Dt.int), .tup (ps.map pairDt)]) (.ref r) → lendsOk ns → needsOk ps (ns.length - 1) → Q (.ref r) H'
abbrev N__law_some_ladder : List Str := ["pen", "top", "lends", "rank", "needs"]
theorem sc__law_some_ladder : FnScope N__law_some_ladder ["pen"] (defScope s__law_some_ladder) := ⟨rfl, rfl, rfl, by decide +kernel, rfl, by decide +kernel, by decide +kernel⟩
theorem ok__law_some_ladder (T : Txt K mg) : CallOk P w K mg base 3 "_law_some_ladder" ["pen"] [] sp_law_some_ladder := by
  refine call_ok T 76 T.g__law_some_ladder sc__law_some_ladder (fun vs H Q E h => ?_) (fun f cdv A outer s H vs Q E hr h => ?_) (fun _ _ _ _ _ _ us hl => match us, hl with | [_], _ => rfl)
  · obtain ⟨x0, rfl, _⟩ := h
    rfl
  · have nd := sc__law_some_ladder.nd
    have hu := hu_of hr
    have hu64 := hu64_of hr
    have c__law_pick := ok__law_pick (P := P) (w := w) (base := base) T
    have c__law_draw := ok__law_draw (P := P) (w := w) (base := base) T
    obtain ⟨x0, rfl, h⟩ := h
    refine ⟨_, (pss_cons (ps_set (i := 1) nd rfl (Or.inr rfl) (pe_callO c__law_pick (hr.mono (by first | decide | omega)) (pa_cons (pv 0) (pa_cons (pe_lst (pa_cons pe_int (pa_cons pe_int (pa_cons pe_int (pa_cons pe_int (pa_cons pe_int (pa_cons pe_int (pa_cons pe_int pa_nil)))))))) pa_nil)))) (pss_cons (ps_set (i := 2) nd rfl (Or.inl rfl) (pe_lst (pa_cons (pe_callO c__law_pick (hr.mono (by first | decide | omega)) (pa_cons (pv 0) (pa_cons (pe_lst (pa_cons pe_int (pa_cons pe_int (pa_cons pe_int (pa_cons pe_int pa_nil))))) pa_nil))) pa_nil))) (pss_cons (ps_for PassesOwn.never rfl (pi_range1 (by rfl) T.b_range (pa_cons (pv 1) pa_nil)) (pg_name (i := 3) nd rfl (Or.inl rfl)) (pss_one (ps_expr (pe_bm PySem.F.plainAttrs_list PySem.F.slot_list_append PySem.F.type_list_append mt_append (pv 2) (pa_cons (pe_callB (call_min2 rfl) (by rfl) T.b_min boot_min (pa_cons pe_int (pa_cons (pe_op op_add (pe_ix (ixL (K := K)) (pv 2) (pe_un un_neg pe_int) (fun _ _ => rfl)) (pe_callO c__law_pick (hr.mono (by first | decide | omega)) (pa_cons (pv 0) (pa_cons (pe_lst (pa_cons pe_int (pa_cons pe_int (pa_cons pe_int (pa_cons pe_int (pa_cons pe_int (pa_cons pe_int pa_nil))))))) pa_nil)))) pa_nil))) pa_nil))))) (pss_cons (ps_setLc (i := 4) (own := [("rank", 3)]) (g := (gName 3)) (tt := tYes) rfl nd rfl rfl (sw_true rfl rfl rfl (by decide +kernel)) (pi_range1 (by rfl) T.b_range (pa_cons (pv 1) pa_nil)) (blkOk_by (own := [("rank", 3)]) (N := N__law_some_ladder) (sc := defScope s__law_some_ladder) (by decide +kernel)) (fun _ _ _ _ _ => (pg_name (i := 3) nd rfl (Or.inl rfl))) (fun _ _ _ _ _ => pts_nil) (fun _ _ _ _ _ => (pe_tup (pa_cons (pe_op op_add pe_int (pe_callO c__law_draw (hr.mono (by first | decide | omega)) (pa_cons (pv 0) (pa_cons pe_int pa_nil)))) (pa_cons (pe_callO c__law_pick (hr.mono (by first | decide | omega)) (pa_cons (pv 0) (pa_cons (pe_lst (pa_cons pe_int (pa_cons pe_int (pa_cons (pv 3) (pa_cons (pe_callO c__law_draw (hr.mono (by first | decide | omega)) (pa_cons (pv 0) (pa_cons (pe_op op_add (pv 1) pe_int) pa_nil))) pa_nil))))) pa_nil))) pa_nil))))) (pss_one (ps_ret (pe_tup (pa_cons (pe_callTy (tupleOfK (K := K)) (by rfl) T.b_tuple boot_tuple (pa_cons (pv 2) pa_nil)) (pa_cons (pe_callTy (tupleOfK (K := K)) (by rfl) T.b_tuple boot_tuple (pa_cons (pv 4) pa_nil)) pa_nil))))))))), ?_⟩
    obtain ⟨a, n, rfl, pa, hn, q⟩ := h
    have z1001 : (1001 : Nat) ≤ sizeLine := by decide
    refine ⟨_, rfl, by decide, fun l hl => pick_ints (ns := [0, 1, 1, 2, 2, 3, 4]) pa (by omega) hl (by decide) (by decide) fun H1 top b1 pa1 ht => ?_⟩
    have ht : 0 ≤ top ∧ top ≤ 4 := by simp at ht; omega
    refine ⟨_, rfl, by decide, fun l hl => pick_ints (ns := [0, 1, 1, 2]) pa1 (by omega) hl (by decide) (by decide) fun H2 x b2 pa2 hx => ?_⟩
    have hx : 0 ≤ x ∧ x ≤ 2 := by simp at hx; omega
    refine ⟨by show 1 ≤ sizeLine; decide, fun c hc => ?_⟩
    have hcH : H c = none := (b1.trans b2).free hc fun z => pa2.p_occ (by rw [← z]; exact hc)
    refine ⟨_, rfl, top, rfl, by omega, by omega, for_it walk_range (fun i σ H3 => ∃ (v3 : Option V) (ns : List Int) (y : Int) (n3 : Nat), σ = [some (.ref a.p), some (.int top), some (.ref c), v3, none] ∧ But1 a.p H H3 ∧ PenAt H3 a n3 ∧ n3 ≤ n + 2 + i ∧ H3 c = some (.lst ((ns ++ [y]).map V.int)) ∧ ns.length = i ∧ lendsI (ns ++ [y]))
      ⟨_, [], x, n + 2, rfl, (b1.trans b2).upd_new hc, pa.upd pa2 hcH, by omega, upd_same, rfl, ⟨by simp; omega, by intro i x1 y1 h1 h2; simp at h2⟩⟩ (fun _ _ _ _ _ => trivial) ?_ ?_⟩
    · rintro i v σ H3 H4 hi ⟨v3, ns, y, n3, rfl, b3, pa3, hn3, e3, ln, hns⟩ ⟨rfl, rfl⟩
      refine ⟨_, rfl, .inl ⟨rfl, _, SqL.of e3⟩, _, rfl, _, rfl, c, _, _, _, rfl, rfl, SqL.of e3, (by rw [List.map_append]; exact atI_last _ _), _, rfl, by decide, fun l hl => pick_ints (ns := [0, 1, 1, 2, 3, 9]) pa3 (by omega) hl (by decide) (by decide) fun H5 k b5 pa5 hk => ?_⟩
      have hk : 0 ≤ k := by simp at hk; omega
      have hy := hns.1 y (by simp)
      have e5 := pa3.lst b5 e3
      refine ⟨_, _, rfl, rfl, _, _, rfl, c, _, _, rfl, rfl, e5, by simp; omega, _, ns ++ [y], (if y + k < 24 then y + k else 24), n3 + 1, rfl, (b3.trans b5).upd_free hcH, pa.upd pa5 hcH, by omega, by rw [upd_same]; simp, by simp [ln], lends_snoc hns ?_ ?_⟩
      · split <;> omega
      · split <;> omega
    · rintro σ H3 ⟨v3, ns, y, n3, rfl, b3, pa3, hn3, e3, ln, hns⟩
      have lt : ((ns ++ [y]).length : Int) = top + 1 := by simp [ln]; omega
      refine ⟨_, rfl, top, rfl, by omega, by omega, fun D hD => lc_relB walk_range (· = a.p) (fun i l H4 => ∃ (n4 : Nat) (ps : List (Int × Int)), PenAt H4 a n4 ∧ n4 ≤ n3 + 3 * i ∧ ps.length = i ∧ TvAll H4 (ps.map pairDt) l ∧ ∀ p ∈ ps, 1 ≤ p.1 ∧ p.1 ≤ 20 ∧ 0 ≤ p.2 ∧ p.2 ≤ top) hD (fun _ _ => trivial) ⟨n3, [], pa3.upd pa3 hD, by omega, rfl, trivial, by simp⟩ ?_ ?_⟩
      · rintro i v l H4 H5 hi hl b4 e4 ⟨n4, ps, pa4, hn4, lp, tv, hp⟩ ⟨rfl, rfl⟩
        refine ⟨rfl, _, rfl, _, _, rfl, _, _, _, rfl, pa4, by omega, rfl, by omega, by omega, fun H6 k6 b6 pa6 k60 k61 => ⟨_, _, rfl, rfl, _, rfl, _, rfl, _, rfl, _, rfl, _, _, rfl, rfl, _, _, rfl, _, _, _, rfl, pa6, by omega, rfl, by omega, by omega, fun H7 k7 b7 pa7 k70 k71 => ⟨by show 4 ≤ sizeLine; decide, fun l7 hl7 => pick_ints (ns := [0, 0, 0 + (i : Int), k7]) pa7 (by omega) hl7 (by simp) (by simp) fun H8 k8 b8 pa8 hk8 => ⟨by show 2 ≤ sizeLine; decide, fun t ht => ?_⟩⟩⟩⟩
        have hk8 : 0 ≤ k8 ∧ k8 ≤ top := by simp at hk8; omega
        have b48 := (b6.trans b7).trans b8
        have e8 := pa4.lst b48 e4
        have s8 := same_new (o := .tup [.int (1 + k6), .int k8]) ht
        have tD : t ≠ D := fun z => by rw [z, e8] at ht; cases ht
        refine lc_takeB hD (by omega) hl (b4.trans (b48.trans (but_same s8))) (s8 _ _ e8) ⟨n4 + 3, ps ++ [(1 + k6, k8)], pa3.upd (pa8.same s8) hD, by omega, by simp [lp], ?_, fun p hp2 => ?_⟩
        · rw [List.map_append]
          have k1 : Tk H5 _ := ((pa4.tk b48).trans (tk_same s8)).trans (tk_mut (u := .lst (l ++ [.ref t])) (s8 _ _ e8) (by intro _ z; cases z))
          exact (tv.keep k1).app (TvAll.one ⟨t, [.int (1 + k6), .int k8], rfl, by rw [upd_ne tD]; exact upd_same, rfl, rfl, trivial⟩)
        · rcases List.mem_append.mp hp2 with hp2 | hp2
          · exact hp p hp2
          · obtain rfl := List.mem_singleton.mp hp2
            exact ⟨by show (1 : Int) ≤ 1 + k6; omega, by show 1 + k6 ≤ (20 : Int); omega, hk8⟩
      · rintro l H4 hl b4 e4 ⟨n4, ps, pa4, hn4, lp, tv, hp⟩
        have e3' := pa3.lst b4 e3
        refine ⟨_, rfl, c, _, rfl, .inl ⟨SqL.of e3', fun t1 ht1 => ⟨_, rfl, D, _, rfl, .inl ⟨SqL.of (same_new ht1 _ _ e4), fun t2 ht2 => ⟨by show 2 ≤ sizeLine; decide, fun t3 ht3 => ?_⟩⟩⟩⟩⟩
        have s1 := same_new (o := .tup ((ns ++ [y]).map V.int)) ht1
        have s2 := same_new (o := .tup l) ht2
        have s3 := same_new (o := .tup [.ref t1, .ref t2]) ht3
        have sA := (s1.trans s2).trans s3
        refine q _ n4 t3 (ns ++ [y]) ps ((b3.trans b4).trans (but_same sA)) (pa4.same sA) (by omega) ⟨t3, [.ref t1, .ref t2], rfl, upd_same, ⟨t1, _, rfl, s3 _ _ (s2 _ _ upd_same), TvAll.ints.mpr rfl⟩, ⟨t2, l, rfl, s3 _ _ upd_same, tv.keep (tk_same sA)⟩, trivial⟩ ⟨by simp, by simp [ln]; omega, hns.1, hns.2⟩ ⟨by simp [ln]; omega, by simp [ln]; omega, fun p hp2 => ?_⟩
        have h1 := hp p hp2
        have h2 : (((ns ++ [y]).length - 1 : Nat) : Int) = top := by simp [ln]; omega
        omega
end
end Lv
set_option maxHeartbeats 4000000
namespace Lv
open PySem PySem.Spec PyProof.Rows L2
theorem cutV_lo {xs : List V} {k : Nat} : cutV xs none (some (k : Int)) = xs.take k := by
  unfold cutV
  rw [HT.sIx_none, HT.sIx_nat, List.drop_zero, Nat.sub_zero, List.take_eq_take_iff]
  omega
theorem cutV_all {xs : List V} {j : Nat} (h : j ≤ xs.length) : (xs.drop j).take (xs.length - j) = xs.drop j := List.take_of_length_le (by rw [List.length_drop]; exact Nat.le_refl _)
theorem cutV_hi {xs : List V} {k : Nat} : cutV xs (some (k : Int)) none = xs.drop k := by
  unfold cutV
  rw [HT.sIx_none, HT.sIx_nat]
  by_cases h : k ≤ xs.length
  · rw [Nat.min_eq_left h]
    exact cutV_all h
  · rw [Nat.min_eq_right (by omega), List.drop_of_length_le (Nat.le_refl _), List.drop_of_length_le (by omega), List.take_nil]
theorem cutV_neg {xs : List V} {k : Nat} (h : 0 < k) : cutV xs (some (-(k : Int))) none = xs.drop (xs.length - k) := by
  unfold cutV
  have e : HT.sIx xs.length 0 (some (-(k : Int))) = xs.length - k := by
    show (if (-(k : Int)) < 0 then (-(k : Int) + (xs.length : Int)).toNat else _) = _
    rw [if_pos (by omega)]
    omega
  rw [HT.sIx_none, e]
  exact cutV_all (Nat.sub_le _ _)
def dd_rows (v0 v1 v2 v3 v4 : V) : List (Key × V) := [((Sum.inr "lends" : Key), v0), ((Sum.inr "needs" : Key), v1), ((Sum.inr "founders" : Key), v2), ((Sum.inr "rules" : Key), v3), ((Sum.inr "threads" : Key), v4)]
theorem dd_rows_lends (v0 v1 v2 v3 v4 : V) : valV (dd_rows v0 v1 v2 v3 v4) (Sum.inr "lends" : Key) = some v0 := by
  have n1 : ¬ ("needs" : Str) = "lends" := by decide +kernel
  have n2 : ¬ ("founders" : Str) = "lends" := by decide +kernel
  have n3 : ¬ ("rules" : Str) = "lends" := by decide +kernel
  have n4 : ¬ ("threads" : Str) = "lends" := by decide +kernel
  simp [valV, dd_rows, n1, n2, n3, n4]
theorem dd_rows_put_lends (v0 v1 v2 v3 v4 x : V) : putK (dd_rows v0 v1 v2 v3 v4) (Sum.inr "lends" : Key) x = dd_rows x v1 v2 v3 v4 := by
  have n1 : ¬ ("needs" : Str) = "lends" := by decide +kernel
  have n2 : ¬ ("founders" : Str) = "lends" := by decide +kernel
  have n3 : ¬ ("rules" : Str) = "lends" := by decide +kernel
  have n4 : ¬ ("threads" : Str) = "lends" := by decide +kernel
  simp [putK, dd_rows, n1, n2, n3, n4]
theorem dd_rows_needs (v0 v1 v2 v3 v4 : V) : valV (dd_rows v0 v1 v2 v3 v4) (Sum.inr "needs" : Key) = some v1 := by
  have n0 : ¬ ("lends" : Str) = "needs" := by decide +kernel
  have n2 : ¬ ("founders" : Str) = "needs" := by decide +kernel
  have n3 : ¬ ("rules" : Str) = "needs" := by decide +kernel
  have n4 : ¬ ("threads" : Str) = "needs" := by decide +kernel
  simp [valV, dd_rows, n0, n2, n3, n4]
theorem dd_rows_put_needs (v0 v1 v2 v3 v4 x : V) : putK (dd_rows v0 v1 v2 v3 v4) (Sum.inr "needs" : Key) x = dd_rows v0 x v2 v3 v4 := by
  have n0 : ¬ ("lends" : Str) = "needs" := by decide +kernel
  have n2 : ¬ ("founders" : Str) = "needs" := by decide +kernel
  have n3 : ¬ ("rules" : Str) = "needs" := by decide +kernel
  have n4 : ¬ ("threads" : Str) = "needs" := by decide +kernel
  simp [putK, dd_rows, n0, n2, n3, n4]
theorem dd_rows_founders (v0 v1 v2 v3 v4 : V) : valV (dd_rows v0 v1 v2 v3 v4) (Sum.inr "founders" : Key) = some v2 := by
  have n0 : ¬ ("lends" : Str) = "founders" := by decide +kernel
  have n1 : ¬ ("needs" : Str) = "founders" := by decide +kernel
  have n3 : ¬ ("rules" : Str) = "founders" := by decide +kernel
  have n4 : ¬ ("threads" : Str) = "founders" := by decide +kernel
  simp [valV, dd_rows, n0, n1, n3, n4]
theorem dd_rows_put_founders (v0 v1 v2 v3 v4 x : V) : putK (dd_rows v0 v1 v2 v3 v4) (Sum.inr "founders" : Key) x = dd_rows v0 v1 x v3 v4 := by
  have n0 : ¬ ("lends" : Str) = "founders" := by decide +kernel
  have n1 : ¬ ("needs" : Str) = "founders" := by decide +kernel
  have n3 : ¬ ("rules" : Str) = "founders" := by decide +kernel
  have n4 : ¬ ("threads" : Str) = "founders" := by decide +kernel
  simp [putK, dd_rows, n0, n1, n3, n4]
theorem dd_rows_rules (v0 v1 v2 v3 v4 : V) : valV (dd_rows v0 v1 v2 v3 v4) (Sum.inr "rules" : Key) = some v3 := by
  have n0 : ¬ ("lends" : Str) = "rules" := by decide +kernel
  have n1 : ¬ ("needs" : Str) = "rules" := by decide +kernel
  have n2 : ¬ ("founders" : Str) = "rules" := by decide +kernel
  have n4 : ¬ ("threads" : Str) = "rules" := by decide +kernel
  simp [valV, dd_rows, n0, n1, n2, n4]
theorem dd_rows_put_rules (v0 v1 v2 v3 v4 x : V) : putK (dd_rows v0 v1 v2 v3 v4) (Sum.inr "rules" : Key) x = dd_rows v0 v1 v2 x v4 := by
  have n0 : ¬ ("lends" : Str) = "rules" := by decide +kernel
  have n1 : ¬ ("needs" : Str) = "rules" := by decide +kernel
  have n2 : ¬ ("founders" : Str) = "rules" := by decide +kernel
  have n4 : ¬ ("threads" : Str) = "rules" := by decide +kernel
  simp [putK, dd_rows, n0, n1, n2, n4]
theorem dd_rows_threads (v0 v1 v2 v3 v4 : V) : valV (dd_rows v0 v1 v2 v3 v4) (Sum.inr "threads" : Key) = some v4 := by
  have n0 : ¬ ("lends" : Str) = "threads" := by decide +kernel
  have n1 : ¬ ("needs" : Str) = "threads" := by decide +kernel
  have n2 : ¬ ("founders" : Str) = "threads" := by decide +kernel
  have n3 : ¬ ("rules" : Str) = "threads" := by decide +kernel
  simp [valV, dd_rows, n0, n1, n2, n3]
theorem dd_rows_put_threads (v0 v1 v2 v3 v4 x : V) : putK (dd_rows v0 v1 v2 v3 v4) (Sum.inr "threads" : Key) x = dd_rows v0 v1 v2 v3 x := by
  have n0 : ¬ ("lends" : Str) = "threads" := by decide +kernel
  have n1 : ¬ ("needs" : Str) = "threads" := by decide +kernel
  have n2 : ¬ ("founders" : Str) = "threads" := by decide +kernel
  have n3 : ¬ ("rules" : Str) = "threads" := by decide +kernel
  simp [putK, dd_rows, n0, n1, n2, n3]
theorem dd_rows_mk (v0 v1 v2 v3 v4 : V) : mergeK [] (dd_rows v0 v1 v2 v3 v4) = dd_rows v0 v1 v2 v3 v4 := by
  have n0_1 : ¬ ("lends" : Str) = "needs" := by decide +kernel
  have n0_2 : ¬ ("lends" : Str) = "founders" := by decide +kernel
  have n0_3 : ¬ ("lends" : Str) = "rules" := by decide +kernel
  have n0_4 : ¬ ("lends" : Str) = "threads" := by decide +kernel
  have n1_2 : ¬ ("needs" : Str) = "founders" := by decide +kernel
  have n1_3 : ¬ ("needs" : Str) = "rules" := by decide +kernel
  have n1_4 : ¬ ("needs" : Str) = "threads" := by decide +kernel
  have n2_3 : ¬ ("founders" : Str) = "rules" := by decide +kernel
  have n2_4 : ¬ ("founders" : Str) = "threads" := by decide +kernel
  have n3_4 : ¬ ("rules" : Str) = "threads" := by decide +kernel
  simp [mergeK, putK, dd_rows, n0_1, n0_2, n0_3, n0_4, n1_2, n1_3, n1_4, n2_3, n2_4, n3_4]
structure RowsD where
  ns : List Int
  ps : List (Int × Int)
  fs : List (Str × Int × Int)
  rs : List (Str × Str × Int × Int)
  ys : List Str
def founderDt (x : Str × Int × Int) : Dt := .tup [.str x.1, .int x.2.1, .int x.2.2]
def ruleDt (x : Str × Str × Int × Int) : Dt := .tup [.str x.1, .str x.2.1, .int x.2.2.1, .int x.2.2.2]
def threadsDt (ys : List Str) : Dt := .tup [.tup [.str "tea", .non], .tup [.str "den", .tup (ys.map Dt.str)]]
structure RowsD.Ok (d : RowsD) (names : List Str) : Prop where
  l : lendsOk d.ns
  n : needsOk d.ps (d.ns.length - 1)
  f1 : 1 ≤ d.fs.length ∧ d.fs.length ≤ 2
  f2 : (d.fs.map (·.1)).Nodup
  f3 : ∀ f ∈ d.fs, f.1 ∈ names ∧ 1 ≤ f.2.1 ∧ f.2.1 ≤ 6 ∧ 0 ≤ f.2.2 ∧ f.2.2 ≤ (d.ns.length - 1 : Nat)
  r1 : (d.rs.map (·.1)).Perm [("hide" : Str), "mute", "move"]
  r3 : ∀ r ∈ d.rs, r.2.1 ∈ kindsOf r.1 ∧ 1 ≤ r.2.2.1 ∧ r.2.2.1 ≤ 3 ∧ 0 ≤ r.2.2.2 ∧ r.2.2.2 ≤ (d.ns.length - 1 : Nat)
  y : readersOk (some d.ys)
def RowsTv (H : Hp) (d : RowsD) (v0 v1 v2 v3 v4 : V) : Prop := Tv H (.tup (d.ns.map Dt.int)) v0 ∧ Tv H (.tup (d.ps.map pairDt)) v1 ∧ Tv H (.tup (d.fs.map founderDt)) v2 ∧ Tv H (.tup (d.rs.map ruleDt)) v3 ∧ Tv H (threadsDt d.ys) v4
def RowsAt (H : Hp) (R : Addr) (d : RowsD) : Prop := ∃ v0 v1 v2 v3 v4, H R = some (.dK (dd_rows v0 v1 v2 v3 v4)) ∧ RowsTv H d v0 v1 v2 v3 v4
theorem RowsTv.keep {H H' : Hp} {d : RowsD} {v0 v1 v2 v3 v4 : V} (k : Tk H H') (h : RowsTv H d v0 v1 v2 v3 v4) : RowsTv H' d v0 v1 v2 v3 v4 := ⟨h.1.keep k, h.2.1.keep k, h.2.2.1.keep k, h.2.2.2.1.keep k, h.2.2.2.2.keep k⟩
theorem RowsAt.but {S : Addr → Prop} {H H' : Hp} {R : Addr} {d : RowsD} (b : But S H H') (hR : ¬ S R) (k : Tk H H') (h : RowsAt H R d) : RowsAt H' R d := by
  obtain ⟨v0, v1, v2, v3, v4, e, t⟩ := h
  exact ⟨v0, v1, v2, v3, v4, b _ _ e hR, t.keep k⟩
theorem TvAll.perm {H : Hp} {xs ys : List V} (p : ys.Perm xs) : ∀ {ds : List Dt}, TvAll H ds xs → ∃ ds' : List Dt, ds'.Perm ds ∧ TvAll H ds' ys := by
  induction p with
  | nil => intro ds h; exact ⟨ds, .refl _, h⟩
  | cons x p ih =>
    intro ds h
    cases ds with
    | nil => exact h.elim
    | cons d ds =>
      obtain ⟨ds', h1, h2⟩ := ih h.2
      exact ⟨d :: ds', h1.cons d, h.1, h2⟩
  | swap x y l =>
    intro ds h
    match ds, h with
    | d :: e :: ds, ⟨h1, h2, h3⟩ => exact ⟨e :: d :: ds, .swap _ _ _, h2, h1, h3⟩
  | trans p1 p2 ih1 ih2 =>
    intro ds h
    obtain ⟨d1, h1, h2⟩ := ih2 h
    obtain ⟨d2, h3, h4⟩ := ih1 h2
    exact ⟨d2, h3.trans h1, h4⟩
theorem TvAll.permMap {H : Hp} {α : Type} {f : α → Dt} {xs ys : List V} {as : List α} (p : ys.Perm xs) (h : TvAll H (as.map f) xs) : ∃ bs : List α, bs.Perm as ∧ TvAll H (bs.map f) ys := by
  obtain ⟨ds, h1, h2⟩ := TvAll.perm p h
  obtain ⟨bs, h3, rfl⟩ := perm_map_inv h1 as rfl
  exact ⟨bs, h3, h2⟩
def wk : List (Str × Str) := [("hide", "post"), ("mute", "account"), ("move", "name")]
theorem wk_kinds : ∀ p ∈ wk, p.2 ∈ kindsOf p.1 := by decide +kernel
def ssDt (p : Str × Str) : Dt := .tup [.str p.1, .str p.2]
theorem hide_words : ("hide" : Str) ≠ "mute" ∧ ("hide" : Str) ≠ "move" ∧ ("mute" : Str) ≠ "move" := by decide +kernel
section
variable {P : Program} {w : World} {K : PySem.W.Frag} {mg : Str → Option Value} {base : Heap}
def sp_law_some_forum : Sp := sp2 fun v x0 H Q => ∃ (a : PenA) (n : Nat) (l : Addr) (names : List Str), v = .ref a.p ∧ PenAt H a n ∧ n + 200 ≤ 1000000 ∧ x0 = .ref l ∧ H l = some (.lst (names.map V.str)) ∧ NamesOk names ∧ 3 ≤ names.length ∧ names.length ≤ 10 ∧ ∀ (H' : Hp) (n' : Nat) (R : Addr) (d : RowsD), But1 a.p H H' → PenAt H' a n' → n' ≤ n + 100 → H R = none → RowsAt H' R d → d.Ok names → Q (.ref R) H'
abbrev N__law_some_forum : List Str := ["pen", "names", "lends", "needs", "founders", "name", "rules", "word", "kind", "threads"]
theorem sc__law_some_forum : FnScope N__law_some_forum ["pen", "names"] (defScope s__law_some_forum) := ⟨rfl, rfl, rfl, by decide +kernel, rfl, by decide +kernel, by decide +kernel⟩
theorem ok__law_some_forum (T : Txt K mg) : CallOk P w K mg base 4 "_law_some_forum" ["pen", "names"] [] sp_law_some_forum := by
  refine call_ok T 77 T.g__law_some_forum sc__law_some_forum (fun vs H Q E h => ?_) (fun f cdv A outer s H vs Q E hr h => ?_) (fun _ _ _ _ _ _ us hl => match us, hl with | [_, _], _ => rfl)
  · obtain ⟨x0, x1, rfl, _⟩ := h
    rfl
  · have nd := sc__law_some_forum.nd
    have hu := hu_of hr
    have hu64 := hu64_of hr
    have c__law_some_ladder := ok__law_some_ladder (P := P) (w := w) (base := base) T
    have c__law_pick := ok__law_pick (P := P) (w := w) (base := base) T
    have c__law_draw := ok__law_draw (P := P) (w := w) (base := base) T
    have c__law_shuffled := ok__law_shuffled (P := P) (w := w) (base := base) T
    obtain ⟨x0, x1, rfl, h⟩ := h
    refine ⟨_, (pss_cons (ps_asg (pe_callO c__law_some_ladder (hr.mono (by first | decide | omega)) (pa_cons (pv 0) pa_nil)) (pg_tup rfl (pgs_cons (pg_name (i := 2) nd rfl (Or.inl rfl)) (pgs_cons (pg_name (i := 3) nd rfl (Or.inl rfl)) pgs_nil)))) (pss_cons (ps_set (i := 4) nd rfl (Or.inl rfl) (pe_lst pa_nil)) (pss_cons (ps_for PassesOwn.never rfl (pi_list (pe_slice (slLK (K := K)) (pv 1) po_none (po_some (pe_op op_add pe_int (pe_callO c__law_draw (hr.mono (by first | decide | omega)) (pa_cons (pv 0) (pa_cons pe_int pa_nil))))))) (pg_name (i := 5) nd rfl (Or.inl rfl)) (pss_one (ps_expr (pe_bm PySem.F.plainAttrs_list PySem.F.slot_list_append PySem.F.type_list_append mt_append (pv 4) (pa_cons (pe_tup (pa_cons (pv 5) (pa_cons (pe_op op_add pe_int (pe_callO c__law_draw (hr.mono (by first | decide | omega)) (pa_cons (pv 0) (pa_cons pe_int pa_nil)))) (pa_cons (pe_callO c__law_pick (hr.mono (by first | decide | omega)) (pa_cons (pv 0) (pa_cons (pe_lst (pa_cons pe_int (pa_cons (pe_op op_sub (pe_callB (lenSK (K := K)) (by rfl) T.b_len boot_len (pa_cons (pv 2) pa_nil)) pe_int) (pa_cons (pe_op op_sub (pe_callB (lenSK (K := K)) (by rfl) T.b_len boot_len (pa_cons (pv 2) pa_nil)) pe_int) pa_nil)))) pa_nil))) pa_nil)))) pa_nil))))) (pss_cons (ps_set (i := 6) nd rfl (Or.inl rfl) (pe_lst pa_nil)) (pss_cons (ps_for PassesOwn.never rfl (pi_list (pe_lst (pa_cons (pe_tup (pa_cons pe_str (pa_cons pe_str pa_nil))) (pa_cons (pe_tup (pa_cons pe_str (pa_cons pe_str pa_nil))) (pa_cons (pe_tup (pa_cons pe_str (pa_cons pe_str pa_nil))) pa_nil))))) (pg_tup rfl (pgs_cons (pg_name (i := 7) nd rfl (Or.inl rfl)) (pgs_cons (pg_name (i := 8) nd rfl (Or.inl rfl)) pgs_nil))) (pss_one (ps_expr (pe_bm PySem.F.plainAttrs_list PySem.F.slot_list_append PySem.F.type_list_append mt_append (pv 6) (pa_cons (pe_tup (pa_cons (pv 7) (pa_cons (pv 8) (pa_cons (pe_op op_add pe_int (pe_callO c__law_draw (hr.mono (by first | decide | omega)) (pa_cons (pv 0) (pa_cons pe_int pa_nil)))) (pa_cons (pe_callO c__law_pick (hr.mono (by first | decide | omega)) (pa_cons (pv 0) (pa_cons (pe_lst (pa_cons pe_int (pa_cons pe_int (pa_cons (pe_callO c__law_draw (hr.mono (by first | decide | omega)) (pa_cons (pv 0) (pa_cons (pe_callB (lenSK (K := K)) (by rfl) T.b_len boot_len (pa_cons (pv 2) pa_nil)) pa_nil))) pa_nil)))) pa_nil))) pa_nil))))) pa_nil))))) (pss_cons (ps_set (i := 9) nd rfl (Or.inl rfl) (pe_tup (pa_cons (pe_tup (pa_cons pe_str (pa_cons pe_non pa_nil))) (pa_cons (pe_tup (pa_cons pe_str (pa_cons (pe_callTy (tupleOfK (K := K)) (by rfl) T.b_tuple boot_tuple (pa_cons (pe_callB (sortedSK (K := K)) (by rfl) T.b_sorted boot_sorted (pa_cons (pe_slice (slLK (K := K)) (pv 1) (po_some (pe_un un_neg pe_int)) po_none) pa_nil)) pa_nil)) pa_nil))) pa_nil)))) (pss_one (ps_ret (pe_disp (pps_cons pe_str (pv 2) (pps_cons pe_str (pv 3) (pps_cons pe_str (pe_callTy (tupleOfK (K := K)) (by rfl) T.b_tuple boot_tuple (pa_cons (pv 4) pa_nil)) (pps_cons pe_str (pe_callTy (tupleOfK (K := K)) (by rfl) T.b_tuple boot_tuple (pa_cons (pe_callO c__law_shuffled (hr.mono (by first | decide | omega)) (pa_cons (pv 0) (pa_cons (pv 6) pa_nil))) pa_nil)) (pps_cons pe_str (pv 9) pps_nil))))) (by rfl) (by rfl) (fun z => by cases z) (by decide)))))))))), ?_⟩
    obtain ⟨a, n, l, names, rfl, pa, hn, rfl, el, nok, l3, l10, q⟩ := h
    have z1001 : (1001 : Nat) ≤ sizeLine := by decide
    refine ⟨_, rfl, _, rfl, a, n, rfl, pa, by omega, fun H1 n1 r ns ps b1 pa1 hn1 tv hl hp => ?_⟩
    obtain ⟨r', xs, er, eH1, tvs⟩ := tv
    cases er
    obtain ⟨v0, v1, rfl⟩ : ∃ v0 v1, xs = [v0, v1] := by
      match xs, tvs with
      | [v0, v1], _ => exact ⟨v0, v1, rfl⟩
    obtain ⟨tv0, tv1, _⟩ := tvs
    obtain ⟨t0, xs0, rfl, e0, tva0⟩ := id tv0
    have exs0 : xs0 = ns.map V.int := TvAll.ints.mp tva0
    subst exs0
    refine ⟨r, _, rfl, SqT.of eH1, rfl, _, _, rfl, _, _, rfl, rfl, by decide, fun c hc => ?_⟩
    have s2 := same_new (o := .lst []) hc
    have ec : (upd H1 c (.lst [])) c = some (.lst []) := upd_same
    have pa2 := pa1.same s2
    have b2 := b1.trans (but_same s2)
    have hcH : H c = none := b1.free hc fun z => pa1.p_occ (by rw [← z]; exact hc)
    have k2 : Tk H1 (upd H1 c (.lst [])) := tk_same s2
    generalize upd H1 c (.lst []) = H2 at s2 ec pa2 b2 k2 ⊢
    have lO := hl.1
    have lO2 := hl.2.1
    have el2 := pa.lst b2 el
    refine ⟨_, rfl, _, rfl, _, _, rfl, _, _, _, rfl, pa2, by omega, rfl, by omega, by omega, fun H3 k3 b3 pa3 k30 k31 => ⟨_, _, rfl, rfl, _, rfl, l, _, rfl, SqL.of (pa2.lst b3 el2), fun sl hsl => ?_⟩⟩
    obtain ⟨k, rfl⟩ : ∃ k : Nat, k3 = (k : Int) := ⟨k3.toNat, by omega⟩
    rw [show (1 + (k : Int)) = ((1 + k : Nat) : Int) by omega, cutV_lo, ← List.map_take]
    have hk : k ≤ 1 := by omega
    have lz : (names.take (1 + k)).length = 1 + k := by rw [List.length_take]; omega
    have zs_mem : ∀ z ∈ names.take (1 + k), z ∈ names := fun z hz => List.mem_of_mem_take hz
    have zs_nd : (names.take (1 + k)).Nodup := nok.1.sublist (List.take_sublist _ _)
    generalize names.take (1 + k) = zs at lz zs_mem zs_nd ⊢
    have s4 := same_new (o := .lst (zs.map V.str)) hsl
    have esl : (upd H3 sl (.lst (zs.map V.str))) sl = some (.lst (zs.map V.str)) := upd_same
    have ec3 := pa2.lst b3 ec
    have slc : sl ≠ c := fun z => by rw [z, ec3] at hsl; cases hsl
    have slH : H sl = none := (b2.trans b3).free hsl fun z => pa3.p_occ (by rw [← z]; exact hsl)
    have pa4 := pa3.same s4
    have b4 := (b2.trans b3).trans (but_same s4)
    have k4 : Tk H1 _ := (k2.trans (pa2.tk b3)).trans (tk_same s4)
    have ec4 := s4 _ _ ec3
    generalize upd H3 sl (.lst (zs.map V.str)) = H4 at s4 esl pa4 b4 k4 ec4 ⊢
    refine ⟨sl, rfl, ⟨_, SqL.of esl⟩, for_it walk_list (fun i σ H5 => ∃ (v5 : Option V) (n5 : Nat) (fl : List V) (fs : List (Str × Int × Int)), σ = [some (.ref a.p), some (.ref l), some (.ref t0), some v1, some (.ref c), v5, none, none, none, none] ∧ But1 a.p H H5 ∧ Tk H1 H5 ∧ PenAt H5 a n5 ∧ n5 ≤ n1 + 1 + 2 * i ∧ H5 sl = some (.lst (zs.map V.str)) ∧ H5 c = some (.lst fl) ∧ TvAll H5 (fs.map founderDt) fl ∧ fl.length = i ∧ fs.map (·.1) = zs.take i ∧ ∀ f ∈ fs, 1 ≤ f.2.1 ∧ f.2.1 ≤ 6 ∧ 0 ≤ f.2.2 ∧ f.2.2 ≤ (ns.length - 1 : Nat))
      ⟨_, n1 + 1, [], [], rfl, b4, k4, pa4, by omega, esl, ec4, trivial, rfl, rfl, by simp⟩ (fun i σ H5 _ ⟨_, _, _, _, _, _, _, _, _, e, _⟩ => SqL.of e) ?_ ?_⟩
    · rintro i x σ H5 H6 hi ⟨v5, n5, fl, fs, rfl, b5, k5, pa5, hn5, esl5, ec5, tv5, lf, mf, hf⟩ ⟨rfl, hx⟩
      obtain ⟨z, hz, rfl⟩ := getMap hx
      rw [List.length_map] at hi
      refine ⟨_, rfl, .inl ⟨rfl, _, SqL.of ec5⟩, _, rfl, _, rfl, _, _, rfl, _, _, _, rfl, pa5, by omega, rfl, by omega, by omega, fun H7 k7 b7 pa7 k70 k71 => ⟨_, _, rfl, rfl, _, rfl, _, rfl, t0, _, rfl, .inr (SqT.of (pa5.tk b7 _ _ (k5 _ _ e0))), _, _, rfl, rfl, _, rfl, t0, _, rfl, .inr (SqT.of (pa5.tk b7 _ _ (k5 _ _ e0))), _, _, rfl, rfl, by show 3 ≤ sizeLine; decide, fun l8 hl8 => ?_⟩⟩
      refine pick_ints (ns := [0, ((ns.map V.int).length : Int) - 1, ((ns.map V.int).length : Int) - 1]) pa7 (by omega) hl8 (by simp) (by simp) fun H8 k8 b8 pa8 hk8 => ⟨by show 3 ≤ sizeLine; decide, fun t ht => ?_⟩
      have hk8 : 0 ≤ k8 ∧ k8 ≤ (ns.length - 1 : Nat) := by simp at hk8; omega
      have b78 := b7.trans b8
      have s9 := same_new (o := .tup [.str z, .int (1 + k7), .int k8]) ht
      have ec9 := s9 _ _ (pa5.lst b78 ec5)
      have esl9 := s9 _ _ (pa5.lst b78 esl5)
      have tc : t ≠ c := fun z => by rw [z, pa5.lst b78 ec5] at ht; cases ht
      have k9 : Tk H6 _ := ((pa5.tk b78).trans (tk_same s9)).trans (tk_mut (u := .lst (fl ++ [.ref t])) ec9 (by intro _ z; cases z))
      refine ⟨c, _, _, rfl, rfl, ec9, by omega, _, n5 + 2, fl ++ [.ref t], fs ++ [(z, 1 + k7, k8)], rfl, (b5.trans (b78.trans (but_same s9))).upd_free hcH, k5.trans k9, pa.upd (pa8.same s9) hcH, by omega, by rw [upd_ne slc]; exact esl9, upd_same, ?_, by simp [lf], ?_, fun f hf2 => ?_⟩
      · rw [List.map_append]
        exact (tv5.keep k9).app (TvAll.one ⟨t, [.str z, .int (1 + k7), .int k8], rfl, by rw [upd_ne tc]; exact upd_same, rfl, rfl, rfl, trivial⟩)
      · rw [take_snoc hz, List.map_append, mf]
        rfl
      · rcases List.mem_append.mp hf2 with hf2 | hf2
        · exact hf f hf2
        · obtain rfl := List.mem_singleton.mp hf2
          exact ⟨by show (1 : Int) ≤ 1 + k7; omega, by show 1 + k7 ≤ (6 : Int); omega, hk8⟩
    · rintro σ H5 ⟨v5, n5, fl, fs, rfl, b5, k5, pa5, hn5, esl5, ec5, tv5, lf, mf, hf⟩
      rw [List.length_map] at lf mf hn5
      rw [List.take_length] at mf
      refine ⟨by decide, fun c2 hc2 => ?_⟩
      have s6 := same_new (o := .lst []) hc2
      have c2c : c ≠ c2 := fun z => by rw [← z, ec5] at hc2; cases hc2
      have hc2H : H c2 = none := b5.free hc2 fun z => pa5.p_occ (by rw [← z]; exact hc2)
      refine ⟨by show 2 ≤ sizeLine; decide, fun ta hta => ⟨by show 2 ≤ sizeLine; decide, fun tb htb => ⟨by show 2 ≤ sizeLine; decide, fun td htd => ⟨by show 3 ≤ sizeLine; decide, fun L hL => ?_⟩⟩⟩⟩
      have s7 := same_new (o := .tup [.str "hide", .str "post"]) hta
      have s8 := same_new (o := .tup [.str "mute", .str "account"]) htb
      have s9 := same_new (o := .tup [.str "move", .str "name"]) htd
      have sL := same_new (o := .lst [.ref ta, .ref tb, .ref td]) hL
      have tvL : TvAll (upd (upd (upd (upd (upd H5 c2 (.lst [])) ta (.tup [.str "hide", .str "post"])) tb (.tup [.str "mute", .str "account"])) td (.tup [.str "move", .str "name"])) L (.lst [.ref ta, .ref tb, .ref td])) (wk.map ssDt) [.ref ta, .ref tb, .ref td] :=
        ⟨⟨ta, _, rfl, sL _ _ (s9 _ _ (s8 _ _ upd_same)), rfl, rfl, trivial⟩, ⟨tb, _, rfl, sL _ _ (s9 _ _ upd_same), rfl, rfl, trivial⟩, ⟨td, _, rfl, sL _ _ upd_same, rfl, rfl, trivial⟩, trivial⟩
      have eL : (upd (upd (upd (upd (upd H5 c2 (.lst [])) ta (.tup [.str "hide", .str "post"])) tb (.tup [.str "mute", .str "account"])) td (.tup [.str "move", .str "name"])) L (.lst [.ref ta, .ref tb, .ref td])) L = some (.lst [.ref ta, .ref tb, .ref td]) := upd_same
      have s10 := (((s6.trans s7).trans s8).trans s9).trans sL
      have ec10 : (upd (upd (upd (upd (upd H5 c2 (.lst [])) ta (.tup [.str "hide", .str "post"])) tb (.tup [.str "mute", .str "account"])) td (.tup [.str "move", .str "name"])) L (.lst [.ref ta, .ref tb, .ref td])) c2 = some (.lst []) := sL _ _ (s9 _ _ (s8 _ _ (s7 _ _ upd_same)))
      have Lc2 : L ≠ c2 := fun z => by rw [z, s9 _ _ (s8 _ _ (s7 _ _ upd_same))] at hL; cases hL
      generalize upd (upd (upd (upd (upd H5 c2 (.lst [])) ta (.tup [.str "hide", .str "post"])) tb (.tup [.str "mute", .str "account"])) td (.tup [.str "move", .str "name"])) L (.lst [.ref ta, .ref tb, .ref td]) = H10 at tvL eL s10 ec10 ⊢
      refine ⟨L, rfl, ⟨_, SqL.of eL⟩, for_it walk_list (fun i σ H11 => ∃ (v7 v8 : Option V) (n11 : Nat) (gl : List V) (rs : List (Str × Str × Int × Int)), σ = [some (.ref a.p), some (.ref l), some (.ref t0), some v1, some (.ref c), v5, some (.ref c2), v7, v8, none] ∧ But1 a.p H H11 ∧ Tk H10 H11 ∧ PenAt H11 a n11 ∧ n11 ≤ n5 + 3 * i ∧ H11 L = some (.lst [.ref ta, .ref tb, .ref td]) ∧ H11 c = some (.lst fl) ∧ H11 c2 = some (.lst gl) ∧ TvAll H11 (rs.map ruleDt) gl ∧ gl.length = i ∧ rs.map (·.1) = (wk.take i).map (·.1) ∧ ∀ r ∈ rs, (r.1, r.2.1) ∈ wk ∧ 1 ≤ r.2.2.1 ∧ r.2.2.1 ≤ 3 ∧ 0 ≤ r.2.2.2 ∧ r.2.2.2 ≤ (ns.length - 1 : Nat))
        ⟨_, _, n5, [], [], rfl, b5.trans (but_same s10), Tk.refl, pa5.same s10, by omega, eL, s10 _ _ ec5, ec10, trivial, rfl, rfl, by simp⟩ (fun i σ H5 _ ⟨_, _, _, _, _, _, _, _, _, _, e, _⟩ => SqL.of e) ?_ ?_⟩
      · rintro i x σ H11 H12 hi ⟨v7, v8, n11, gl, rs, rfl, b11, k11, pa11, hn11, eL11, ec11, ec211, tv11, lg, mr, hr⟩ ⟨rfl, hx⟩
        obtain ⟨p, hp, tx⟩ := TvAll.mapGet (tvL.keep k11) hx
        obtain ⟨tp, xs, rfl, etp, tvp⟩ := tx
        obtain ⟨rfl⟩ : xs = [.str p.1, .str p.2] := by
          match xs, tvp with
          | [x1, x2], ⟨h1, h2, _⟩ => rw [show x1 = .str p.1 from h1, show x2 = .str p.2 from h2]
        have hi3 : i < 3 := hi
        have lwk : 1 ≤ ns.length := lO
        have t012 := k5.trans ((tk_same s10).trans k11)
        refine ⟨tp, _, rfl, SqT.of etp, rfl, _, _, rfl, _, _, rfl, rfl, ?_⟩
        refine ⟨_, rfl, .inl ⟨rfl, _, SqL.of ec211⟩, _, rfl, _, rfl, _, rfl, _, _, rfl, _, _, _, rfl, pa11, by omega, rfl, by omega, by omega, fun H13 k13 b13 pa13 k130 k131 => ⟨_, _, rfl, rfl, _, rfl, _, rfl, _, rfl, t0, _, rfl, .inr (SqT.of (pa11.tk b13 _ _ (t012 _ _ e0))), _, _, rfl, _, _, _, rfl, pa13, by omega, rfl, by simp; omega, by simp; omega, fun H14 k14 b14 pa14 k140 k141 => ⟨by show 3 ≤ sizeLine; decide, fun l15 hl15 => ?_⟩⟩⟩
        refine pick_ints (ns := [0, 0, k14]) pa14 (by omega) hl15 (by simp) (by simp) fun H15 k15 b15 pa15 hk15 => ⟨by show 4 ≤ sizeLine; decide, fun t ht => ?_⟩
        have k141 : k14 < ns.length := by simpa using k141
        have hk15 : 0 ≤ k15 ∧ k15 ≤ (ns.length - 1 : Nat) := by simp at hk15; omega
        have b15' := (b13.trans b14).trans b15
        have s16 := same_new (o := .tup [.str p.1, .str p.2, .int (1 + k13), .int k15]) ht
        have ec16 := s16 _ _ (pa11.lst b15' ec211)
        have tc : t ≠ c2 := fun z => by rw [z, pa11.lst b15' ec211] at ht; cases ht
        have k16 : Tk H12 _ := ((pa11.tk b15').trans (tk_same s16)).trans (tk_mut (u := .lst (gl ++ [.ref t])) ec16 (by intro _ z; cases z))
        refine ⟨c2, _, _, rfl, rfl, ec16, by omega, _, _, n11 + 3, gl ++ [.ref t], rs ++ [(p.1, p.2, 1 + k13, k15)], rfl, (b11.trans (b15'.trans (but_same s16))).upd_free hc2H, k11.trans k16, pa.upd (pa15.same s16) hc2H, by omega, by rw [upd_ne Lc2]; exact s16 _ _ (pa11.lst b15' eL11), by rw [upd_ne c2c]; exact s16 _ _ (pa11.lst b15' ec11), upd_same, ?_, by simp [lg], ?_, fun r hr2 => ?_⟩
        · rw [List.map_append]
          exact (tv11.keep k16).app (TvAll.one ⟨t, [.str p.1, .str p.2, .int (1 + k13), .int k15], rfl, by rw [upd_ne tc]; exact upd_same, rfl, rfl, rfl, rfl, trivial⟩)
        · rw [take_snoc hp, List.map_append, List.map_append, mr]
          rfl
        · rcases List.mem_append.mp hr2 with hr2 | hr2
          · exact hr r hr2
          · obtain rfl := List.mem_singleton.mp hr2
            exact ⟨List.mem_of_getElem? hp, by show (1 : Int) ≤ 1 + k13; omega, by show 1 + k13 ≤ (3 : Int); omega, hk15⟩
      · rintro σ H11 ⟨v7, v8, n11, gl, rs, rfl, b11, k11, pa11, hn11, eL11, ec11, ec211, tv11, lg, mr, hr⟩
        have hi3 : ([V.ref ta, .ref tb, .ref td]).length = 3 := rfl
        rw [hi3] at lg mr hn11
        refine ⟨by show 2 ≤ sizeLine; decide, fun u1 hu1 => ?_⟩
        have q1 := same_new (o := .tup [.str "tea", .non]) hu1
        have el12 := q1 _ _ (pa.lst b11 el)
        refine ⟨_, rfl, _, rfl, _, rfl, l, _, rfl, SqL.of el12, fun u2 hu2 => ?_⟩
        have ecut : cutV (names.map V.str) (some (-2)) none = (names.drop (names.length - 2)).map V.str := by
          rw [List.map_drop, show (-2 : Int) = -((2 : Nat) : Int) by rfl, cutV_neg (by decide), List.length_map]
        rw [ecut]
        have q2 := same_new (o := .lst ((names.drop (names.length - 2)).map V.str)) hu2
        refine ⟨u2, _, rfl, SqL.of upd_same, by rw [List.length_drop]; omega, fun ys u3 hp3 hs3 hu3 => ⟨u3, _, rfl, .inl ⟨SqL.of upd_same, fun u4 hu4 => ⟨by show 2 ≤ sizeLine; decide, fun u5 hu5 => ⟨by show 2 ≤ sizeLine; decide, fun u6 hu6 => ?_⟩⟩⟩⟩⟩
        have q3 := same_new (o := .lst (ys.map V.str)) hu3
        have q4 := same_new (o := .tup (ys.map V.str)) hu4
        have q5 := same_new (o := .tup [.str "den", .ref u4]) hu5
        have q6 := same_new (o := .tup [.ref u1, .ref u5]) hu6
        have qA := ((((q1.trans q2).trans q3).trans q4).trans q5).trans q6
        have tvT : Tv (upd (upd (upd (upd (upd (upd H11 u1 (.tup [.str "tea", .non])) u2 (.lst ((names.drop (names.length - 2)).map V.str))) u3 (.lst (ys.map V.str))) u4 (.tup (ys.map V.str))) u5 (.tup [.str "den", .ref u4])) u6 (.tup [.ref u1, .ref u5])) (threadsDt ys) (.ref u6) :=
          ⟨u6, [.ref u1, .ref u5], rfl, upd_same, ⟨u1, [.str "tea", .non], rfl, q6 _ _ (q5 _ _ (q4 _ _ (q3 _ _ (q2 _ _ upd_same)))), rfl, rfl, trivial⟩, ⟨u5, [.str "den", .ref u4], rfl, q6 _ _ upd_same, rfl, ⟨u4, _, rfl, q6 _ _ (q5 _ _ upd_same), TvAll.strs.mpr rfl⟩, trivial⟩, trivial⟩
        have nd2 : (names.drop (names.length - 2)).Nodup := nok.1.sublist (List.drop_sublist _ _)
        have yok : readersOk (some ys) := by
          have hl := hp3.length_eq
          rw [List.length_drop] at hl
          exact ⟨hp3.nodup_iff.mpr nd2, by omega, by omega, fun z hz => nok.ok z (List.mem_of_mem_drop (hp3.mem_iff.mp hz))⟩
        have pa12 := pa11.same qA
        have b12 := b11.trans (but_same qA)
        have ec12 := qA _ _ ec11
        have ec212 := qA _ _ ec211
        have tv12 := tv11.keep (tk_same qA)
        have k12 : Tk H1 _ := k5.trans ((tk_same s10).trans (k11.trans (tk_same qA)))
        have tvf12 := tv5.keep ((tk_same s10).trans (k11.trans (tk_same qA)))
        generalize upd (upd (upd (upd (upd (upd H11 u1 (.tup [.str "tea", .non])) u2 (.lst ((names.drop (names.length - 2)).map V.str))) u3 (.lst (ys.map V.str))) u4 (.tup (ys.map V.str))) u5 (.tup [.str "den", .ref u4])) u6 (.tup [.ref u1, .ref u5]) = H12 at tvT pa12 b12 ec12 ec212 tv12 k12 tvf12 ⊢
        refine fun R hR => ⟨_, rfl, _, rfl, _, rfl, c, _, rfl, .inl ⟨SqL.of (same_new hR _ _ ec12), fun w1 hw1 => ⟨_, rfl, _, rfl, ?_⟩⟩⟩
        have r1 := same_new (o := .dK []) hR
        have r2 := same_new (o := .tup fl) hw1
        have Rw1 : R ≠ w1 := fun z => by rw [← z, upd_same] at hw1; cases hw1
        refine ⟨_, _, rfl, a, n11, c2, gl, rfl, pa12.same (r1.trans r2), by omega, rfl, r2 _ _ (r1 _ _ ec212), by omega, fun H13 u7 gl' b13 pa13 hu7 eu7 hp7 => ⟨u7, _, rfl, .inl ⟨SqL.of eu7, fun w2 hw2 => ⟨_, rfl, ?_⟩⟩⟩⟩
        have eR12 : (upd (upd H12 R (.dK [])) w1 (.tup fl)) R = some (.dK []) := r2 _ _ upd_same
        have Rp : R ≠ a.p := fun z => pa12.p_occ (by rw [← z]; exact hR)
        have eR13 := b13 _ _ eR12 Rp
        have r3 := same_new (o := .tup gl') hw2
        have eR14 := r3 _ _ eR13
        refine ⟨eR14, dd_rows (.ref t0) v1 (.ref w1) (.ref w2) (.ref u6), rfl, by show 5 ≤ 15; decide, ?_⟩
        rw [dd_rows_mk]
        have k13 : Tk H12 (upd (upd H13 w2 (.tup gl')) R (.dK (dd_rows (.ref t0) v1 (.ref w1) (.ref w2) (.ref u6)))) := ((tk_same (r1.trans r2)).trans ((pa12.same (r1.trans r2)).tk b13)).trans ((tk_same r3).trans (tk_mut eR14 (by intro _ z; cases z)))
        have k14 : Tk (upd (upd H12 R (.dK [])) w1 (.tup fl)) (upd (upd H13 w2 (.tup gl')) R (.dK (dd_rows (.ref t0) v1 (.ref w1) (.ref w2) (.ref u6)))) := ((pa12.same (r1.trans r2)).tk b13).trans ((tk_same r3).trans (tk_mut eR14 (by intro _ z; cases z)))
        have k15 : Tk (upd H13 w2 (.tup gl')) (upd (upd H13 w2 (.tup gl')) R (.dK (dd_rows (.ref t0) v1 (.ref w1) (.ref w2) (.ref u6)))) := tk_mut eR14 (by intro _ z; cases z)
        have tvg12 := tv12.keep k13
        obtain ⟨rs', hrs, tvr⟩ := TvAll.permMap hp7 tvg12
        have RH : H R = none := b12.free hR fun z => pa12.p_occ (by rw [← z]; exact hR)
        have lns : 1 ≤ ns.length := lO
        refine q _ _ R ⟨ns, ps, fs, rs', ys⟩ (((b12.trans (but_same (r1.trans r2))).trans b13).trans (but_same r3) |>.upd_free RH) (pa.upd (pa13.same r3) RH) ?_ RH ⟨_, _, _, _, _, upd_same, (tv0.keep k12).keep k13, (tv1.keep k12).keep k13, ⟨w1, _, rfl, k14 _ _ upd_same, tvf12.keep k13⟩, ⟨w2, _, rfl, k15 _ _ upd_same, tvr⟩, tvT.keep k13⟩ ⟨hl, hp, ?_, ?_, fun f hf2 => ?_, ?_, fun r hr2 => ?_, yok⟩
        · have hk1 : 1 + k ≤ 2 := by omega
          omega
        · have : fs.length = 1 + k := by
            have := congrArg List.length mf
            rw [List.length_map, lz] at this
            exact this
          show 1 ≤ fs.length ∧ fs.length ≤ 2
          omega
        · show (fs.map (·.1)).Nodup
          rw [mf]
          exact zs_nd
        · refine ⟨zs_mem _ ?_, hf f hf2⟩
          rw [← mf]
          exact List.mem_map_of_mem hf2
        · have h1 := hrs.map (·.1)
          rw [mr] at h1
          exact h1
        · obtain ⟨h1, h2⟩ := hr r (hrs.mem_iff.mp hr2)
          exact ⟨wk_kinds _ h1, h2⟩
end
end Lv
set_option maxHeartbeats 4000000
namespace Lv
open PySem PySem.Spec PyProof.Rows L2
abbrev cods (z : Str) : List Nat := z.cps.toList
theorem cods_app (a b : Str) : cods (a ++ b) = cods a ++ cods b := by
  show (a ++ b).cps.toList = _
  rw [Str.cps_append, Array.toList_append]
theorem cods_inj {a b : Str} (h : cods a = cods b) : a = b := by
  cases a
  cases b
  congr 1
  exact Array.toList_inj.mp h
def inter (c : Nat) : List (List Nat) → List Nat
  | [] => []
  | [x] => x
  | x :: r => x ++ c :: inter c r
theorem inter_cons (c : Nat) (x y : List Nat) (r : List (List Nat)) : inter c (x :: y :: r) = x ++ c :: inter c (y :: r) := rfl
theorem cut_at {c : Nat} : ∀ {x y a b : List Nat}, c ∉ x → c ∉ y → x ++ c :: a = y ++ c :: b → x = y ∧ a = b
  | [], [], a, b, _, _, h => ⟨rfl, (List.cons.inj h).2⟩
  | [], z :: y, a, b, _, hy, h => absurd (List.mem_cons.mpr (.inl (List.cons.inj h).1)) hy
  | z :: x, [], a, b, hx, _, h => absurd (List.mem_cons.mpr (.inl (List.cons.inj h).1.symm)) hx
  | z :: x, z' :: y, a, b, hx, hy, h => by
    obtain ⟨h1, h2⟩ := List.cons.inj h
    obtain ⟨h3, h4⟩ := cut_at (fun q => hx (List.mem_cons_of_mem _ q)) (fun q => hy (List.mem_cons_of_mem _ q)) h2
    exact ⟨by rw [h1, h3], h4⟩
theorem inter_inj {c : Nat} : ∀ {xs ys : List (List Nat)}, xs ≠ [] → ys ≠ [] → (∀ x ∈ xs, c ∉ x) → (∀ y ∈ ys, c ∉ y) → inter c xs = inter c ys → xs = ys
  | [], _, h, _, _, _, _ => absurd rfl h
  | _, [], _, h, _, _, _ => absurd rfl h
  | [x], [y], _, _, _, _, h => by
    have h : x = y := h
    rw [h]
  | [x], y :: z :: r, _, _, hx, _, h => by
    have h : x = y ++ c :: inter c (z :: r) := h
    exact absurd (by rw [h]; simp) (hx x List.mem_cons_self)
  | x :: z :: r, [y], _, _, _, hy, h => by
    have h : x ++ c :: inter c (z :: r) = y := h
    exact absurd (by rw [← h]; simp) (hy y List.mem_cons_self)
  | x :: z :: r, y :: z' :: r', _, _, hx, hy, h => by
    obtain ⟨h1, h2⟩ := cut_at (hx x List.mem_cons_self) (hy y List.mem_cons_self) (show x ++ c :: inter c (z :: r) = y ++ c :: inter c (z' :: r') from h)
    have h3 := inter_inj (List.cons_ne_nil _ _) (List.cons_ne_nil _ _) (fun x hxm => hx x (List.mem_cons_of_mem _ hxm)) (fun y hym => hy y (List.mem_cons_of_mem _ hym)) h2
    rw [h1, h3]
theorem join_inter {sep : Str} {c : Nat} (hs : cods sep = [c]) : ∀ xs : List Str, cods (Str.join sep xs) = inter c (xs.map cods)
  | [] => rfl
  | [x] => rfl
  | x :: y :: r => by
    show cods (x ++ sep ++ Str.join sep (y :: r)) = _
    rw [cods_app, cods_app, hs, join_inter hs (y :: r)]
    show (cods x ++ [c]) ++ inter c ((y :: r).map cods) = cods x ++ c :: inter c ((y :: r).map cods)
    simp
theorem inter_gap {c : Nat} (x u v : List Nat) (r : List (List Nat)) : inter c (x :: (u ++ c :: v) :: r) = inter c (x :: u :: v :: r) := by
  rw [inter_cons, inter_cons, inter_cons]
  cases r with
  | nil => rfl
  | cons y r =>
    rw [inter_cons, inter_cons]
    simp
theorem inter_head {c : Nat} (x : List Nat) {r r' : List (List Nat)} (h : ∀ y, inter c (y :: r) = inter c (y :: r')) (y : List Nat) : inter c (y :: x :: r) = inter c (y :: x :: r') := by
  rw [inter_cons, inter_cons, h x]
theorem num_inj {a b : Int} (ha : 0 ≤ a) (hb : 0 ≤ b) (h : cods (toString a) = cods (toString b)) : a = b := by
  obtain ⟨m, rfl⟩ := Int.eq_ofNat_of_zero_le ha
  obtain ⟨n, rfl⟩ := Int.eq_ofNat_of_zero_le hb
  have h : (PySem.Str.ofString (toString ((m : Nat) : Int))).cps.toList = (PySem.Str.ofString (toString ((n : Nat) : Int))).cps.toList := h
  rw [PySem.W.KIN.signs_num, PySem.W.KIN.signs_num] at h
  have := congrArg PySem.NumText.digitsVal h
  rw [PySem.W.KIN.val_back, PySem.W.KIN.val_back] at this
  rw [this]
theorem num_free (i : Int) : 32 ∉ cods (toString i) := fun h => (intText_free_32 i).mp h
theorem signs_free {c : Nat} (h : c ∈ cods signsS) : c ≠ 32 ∧ c ≠ 46 := by
  have : c ∈ (lettersS ++ ("0123456789" : Str)).cps.toList := h
  rw [Str.cps_append, Array.toList_append, List.mem_append, figs, List.mem_map] at this
  rcases this with h | ⟨k, hk, rfl⟩
  · have := let_iff.mp h
    omega
  · have := List.mem_range.mp hk
    omega
theorem made_free {z : Str} {m : Int} (h : madeOf z signsS m = true) : 32 ∉ cods z ∧ 46 ∉ cods z := by
  unfold madeOf at h
  obtain ⟨_, h⟩ := band h
  have := fun c hc => signs_free (of_decide_eq_true (List.all_eq_true.mp h c hc))
  exact ⟨fun q => (this 32 q).1 rfl, fun q => (this 46 q).2 rfl⟩
theorem name_free {z : Str} (h : nameOk z = true) : 32 ∉ cods z ∧ 46 ∉ cods z := made_free (band h).1
theorem word_free {z : Str} (h : wordOk z = true) : 32 ∉ cods z ∧ 46 ∉ cods z := made_free (band h).1
theorem dot_cods : cods ("." : Str) = [46] := by decide +kernel
theorem gap_cods : cods (" " : Str) = [32] := by decide +kernel
theorem see_cods : cods ("see" : Str) = [115, 101, 101] := by decide +kernel
theorem inter_mem {c d : Nat} : ∀ {xs : List (List Nat)}, d ∈ inter c xs → d = c ∨ ∃ x ∈ xs, d ∈ x
  | [], h => by cases h
  | [x], h => .inr ⟨x, List.mem_cons_self, h⟩
  | x :: y :: r, h => by
    rw [inter_cons] at h
    rcases List.mem_append.mp h with h | h
    · exact .inr ⟨x, List.mem_cons_self, h⟩
    · rcases List.mem_cons.mp h with h | h
      · exact .inl h
      · rcases inter_mem h with h | ⟨z, hz, hd⟩
        · exact .inl h
        · exact .inr ⟨z, List.mem_cons_of_mem _ hz, hd⟩
theorem subj_free {z : Str} (h : subjOk z = true) : 32 ∉ cods z := by
  obtain ⟨_, h2⟩ := band h
  intro hc
  have e := StrLaws.join_split z "."
  rw [← e, join_inter dot_cods] at hc
  rcases inter_mem hc with h | ⟨x, hx, hd⟩
  · cases h
  · obtain ⟨p, hp, rfl⟩ := List.mem_map.mp hx
    exact (name_free (List.all_eq_true.mp h2 p hp)).1 hd
theorem sides_free : ∀ z ∈ [("for" : Str), "against", "none"], 32 ∉ cods z := by decide +kernel
theorem tags_free : ∀ z ∈ (["vouch", "circle", "back", "block", "take", "speak", "post"] : List Str), 32 ∉ cods z := by decide +kernel
theorem yes_free : 32 ∉ cods ("yes" : Str) ∧ 32 ∉ cods ("no" : Str) ∧ cods ("yes" : Str) ≠ cods ("no" : Str) := by decide +kernel
def ptoks : Piece → List (List Nat)
  | .word w => [cods w]
  | .see a b => [cods "see", cods a ++ 46 :: cods b]
def Say.toks : Say → List (List Nat)
  | .post n t body => cods n :: cods t :: body.flatMap ptoks
  | s => s.texts.map cods
theorem body_inter (body : List Piece) : ∀ x : List Nat, inter 32 (x :: (body.map pieceText).map cods) = inter 32 (x :: body.flatMap ptoks) := by
  induction body with
  | nil => intro x; rfl
  | cons p body ih =>
    intro x
    cases p with
    | word w => exact inter_head (cods w) (fun y => ih y) x
    | see a b =>
      have e : cods (pieceText (.see a b)) = cods ("see" : Str) ++ 32 :: (cods a ++ 46 :: cods b) := by
        show cods (Str.empty ++ ("see" : Str) ++ (" " : Str) ++ a ++ ("." : Str) ++ b) = _
        rw [cods_app, cods_app, cods_app, cods_app, cods_app, dot_cods, gap_cods]
        show [] ++ cods ("see" : Str) ++ [32] ++ cods a ++ [46] ++ cods b = _
        simp
      show inter 32 (x :: cods (pieceText (.see a b)) :: (body.map pieceText).map cods) = inter 32 (x :: cods ("see" : Str) :: (cods a ++ 46 :: cods b) :: body.flatMap ptoks)
      rw [e, inter_gap]
      exact inter_head (cods ("see" : Str)) (fun y => inter_head (cods a ++ 46 :: cods b) (fun y => ih y) y) x
theorem text_toks (acc : Str) (num : Int) (s : Say) : cods (letterText acc num s) = inter 32 (cods acc :: cods (toString num) :: cods s.tag :: s.toks) := by
  have e : letterText acc num s = Str.join " " (acc :: (toString num : Str) :: s.tag :: s.texts) := StrLaws.glued_eq_join _ _
  rw [e, join_inter gap_cods]
  cases s with
  | post n t body => exact inter_head _ (fun y => inter_head _ (fun y => inter_head _ (fun y => inter_head _ (fun y => body_inter body y) y) y) y) _
  | _ => rfl
theorem ptoks_free {p : Piece} (h : p.ok = true) : ∀ x ∈ ptoks p, 32 ∉ x := by
  intro x hx
  cases p with
  | word w =>
    obtain rfl : x = cods w := by simpa [ptoks] using hx
    exact (word_free h).1
  | see a b =>
    obtain ⟨h1, h2⟩ := band h
    have hx : x = cods ("see" : Str) ∨ x = cods a ++ 46 :: cods b := by simpa [ptoks] using hx
    rcases hx with rfl | rfl
    · rw [see_cods]
      decide
    · intro q
      rcases List.mem_append.mp q with q | q
      · exact (name_free h1).1 q
      · rcases List.mem_cons.mp q with q | q
        · cases q
        · exact (name_free h2).1 q
theorem toks_free {s : Say} (h : s.ok = true) (h0 : ∀ n k, (s = .vouch n k ∨ s = .circle n k) → True) : ∀ x ∈ s.toks, 32 ∉ x := by
  intro x hx
  cases s with
  | vouch n k =>
    have hx : x = cods n ∨ x = cods (toString k) := by simpa [Say.toks, Say.texts] using hx
    rcases hx with rfl | rfl
    · exact (name_free (band h).1).1
    · exact num_free k
  | circle n k =>
    have hx : x = cods n ∨ x = cods (toString k) := by simpa [Say.toks, Say.texts] using hx
    rcases hx with rfl | rfl
    · exact (name_free (band h).1).1
    · exact num_free k
  | back n b =>
    have hx : x = cods n ∨ x = cods (if b = true then ("yes" : Str) else "no") := by simpa [Say.toks, Say.texts] using hx
    rcases hx with rfl | rfl
    · exact (name_free h).1
    · cases b
      · exact yes_free.2.1
      · exact yes_free.1
  | block n b =>
    have hx : x = cods n ∨ x = cods (if b = true then ("yes" : Str) else "no") := by simpa [Say.toks, Say.texts] using hx
    rcases hx with rfl | rfl
    · exact (name_free h).1
    · cases b
      · exact yes_free.2.1
      · exact yes_free.1
  | take n =>
    have hx : x = cods n := by simpa [Say.toks, Say.texts] using hx
    rw [hx]
    exact (name_free h).1
  | speak w s side =>
    obtain ⟨h1, h2⟩ := band h
    obtain ⟨h2, h3⟩ := band h2
    have hx : x = cods w ∨ x = cods s ∨ x = cods side := by simpa [Say.toks, Say.texts] using hx
    rcases hx with rfl | rfl | rfl
    · exact (name_free h1).1
    · exact subj_free h2
    · exact sides_free _ (of_decide_eq_true h3)
  | post n t body =>
    obtain ⟨h1, h2⟩ := band h
    obtain ⟨h2, h3⟩ := band h2
    obtain ⟨h3, h4⟩ := band h3
    rcases List.mem_cons.mp hx with rfl | hx
    · exact (name_free h1).1
    rcases List.mem_cons.mp hx with rfl | hx
    · exact (name_free h2).1
    obtain ⟨p, hp, hx⟩ := List.mem_flatMap.mp hx
    exact ptoks_free (List.all_eq_true.mp h4 p hp) x hx
theorem word_see {w : Str} (h : wordOk w = true) : cods w ≠ cods ("see" : Str) := fun e => by
  obtain ⟨_, h2⟩ := band h
  have : w = "see" := cods_inj e
  subst this
  simp at h2
theorem body_inj : ∀ {b c : List Piece}, (∀ p ∈ b, p.ok = true) → (∀ p ∈ c, p.ok = true) → b.flatMap ptoks = c.flatMap ptoks → b = c
  | [], [], _, _, _ => rfl
  | [], .word _ :: _, _, _, h => by cases h
  | [], .see _ _ :: _, _, _, h => by cases h
  | .word _ :: _, [], _, _, h => by cases h
  | .see _ _ :: _, [], _, _, h => by cases h
  | .word w :: b, .word v :: c, hb, hc, h => by
    obtain ⟨h1, h2⟩ := List.cons.inj (show cods w :: b.flatMap ptoks = cods v :: c.flatMap ptoks from h)
    rw [cods_inj h1, body_inj (fun p hp => hb p (List.mem_cons_of_mem _ hp)) (fun p hp => hc p (List.mem_cons_of_mem _ hp)) h2]
  | .word w :: b, .see _ _ :: c, hb, hc, h => absurd (List.cons.inj h).1 (word_see (hb _ List.mem_cons_self))
  | .see _ _ :: b, .word w :: c, hb, hc, h => absurd (List.cons.inj h).1.symm (word_see (hc _ List.mem_cons_self))
  | .see a1 b1 :: b, .see a2 b2 :: c, hb, hc, h => by
    obtain ⟨_, h2⟩ := List.cons.inj (show cods ("see" : Str) :: (cods a1 ++ 46 :: cods b1) :: b.flatMap ptoks = cods ("see" : Str) :: (cods a2 ++ 46 :: cods b2) :: c.flatMap ptoks from h)
    obtain ⟨h3, h4⟩ := List.cons.inj h2
    obtain ⟨n1, n2⟩ := band (show (nameOk a1 && nameOk b1) = true from hb _ List.mem_cons_self)
    obtain ⟨n3, n4⟩ := band (show (nameOk a2 && nameOk b2) = true from hc _ List.mem_cons_self)
    obtain ⟨h5, h6⟩ := cut_at (name_free n1).2 (name_free n3).2 h3
    rw [cods_inj h5, cods_inj h6, body_inj (fun p hp => hb p (List.mem_cons_of_mem _ hp)) (fun p hp => hc p (List.mem_cons_of_mem _ hp)) h4]
theorem tag_ne : ∀ s t : Say, s.tag = t.tag → match s, t with
    | .vouch .., .vouch .. => True | .circle .., .circle .. => True | .back .., .back .. => True | .block .., .block .. => True | .take .., .take .. => True | .speak .., .speak .. => True | .post .., .post .. => True
    | _, _ => False := by
  have ne : ([("vouch" : Str), "circle", "back", "block", "take", "speak", "post"]).Nodup := by decide +kernel
  simp only [List.nodup_cons, List.mem_cons, List.not_mem_nil, not_or, or_false] at ne
  intro s t h
  cases s <;> cases t <;> first | trivial | (exfalso; simp only [Say.tag] at h; simp_all)
theorem yes_inj {b c : Bool} (h : cods (if b = true then ("yes" : Str) else "no") = cods (if c = true then ("yes" : Str) else "no")) : b = c := by
  cases b <;> cases c
  · rfl
  · exact absurd h.symm yes_free.2.2
  · exact absurd h yes_free.2.2
  · rfl
theorem toks_inj {s t : Say} (hs : s.ok = true) (ht : t.ok = true) (e1 : s.tag = t.tag) (e2 : s.toks = t.toks) : s = t := by
  have h := tag_ne s t e1
  cases s <;> cases t <;> first | exact h.elim | skip
  case vouch.vouch n k m l =>
    obtain ⟨q1, q2⟩ := List.cons.inj e2
    have k1 := of_decide_eq_true (band hs).2
    have k2 := of_decide_eq_true (band ht).2
    rw [cods_inj q1, num_inj k1.1 k2.1 (List.cons.inj q2).1]
  case circle.circle n k m l =>
    obtain ⟨q1, q2⟩ := List.cons.inj e2
    have k1 := of_decide_eq_true (band hs).2
    have k2 := of_decide_eq_true (band ht).2
    rw [cods_inj q1, num_inj k1.1 k2.1 (List.cons.inj q2).1]
  case back.back n b m c =>
    obtain ⟨q1, q2⟩ := List.cons.inj e2
    rw [cods_inj q1, yes_inj (List.cons.inj q2).1]
  case block.block n b m c =>
    obtain ⟨q1, q2⟩ := List.cons.inj e2
    rw [cods_inj q1, yes_inj (List.cons.inj q2).1]
  case take.take n m => rw [cods_inj (List.cons.inj e2).1]
  case speak.speak a b c a' b' c' =>
    obtain ⟨q1, q2⟩ := List.cons.inj e2
    obtain ⟨q2, q3⟩ := List.cons.inj q2
    rw [cods_inj q1, cods_inj q2, cods_inj (List.cons.inj q3).1]
  case post.post n t b n' t' b' =>
    obtain ⟨q1, q2⟩ := List.cons.inj e2
    obtain ⟨q2, q3⟩ := List.cons.inj q2
    rw [cods_inj q1, cods_inj q2, body_inj (List.all_eq_true.mp (band (band (band hs).2).2).2) (List.all_eq_true.mp (band (band (band ht).2).2).2) q3]
theorem text_inj_ {acc acc' : Str} {num num' : Int} {s s' : Say} (h1 : nameOk acc = true) (h2 : nameOk acc' = true) (n1 : 0 ≤ num) (n2 : 0 ≤ num') (k1 : s.ok = true) (k2 : s'.ok = true) (h : letterText acc num s = letterText acc' num' s') : acc = acc' ∧ num = num' ∧ s = s' := by
  have e := congrArg cods h
  rw [text_toks, text_toks] at e
  have fr : ∀ {acc : Str} {num : Int} {s : Say}, nameOk acc = true → s.ok = true → ∀ x ∈ (cods acc :: cods (toString num) :: cods s.tag :: s.toks), 32 ∉ x := by
    intro acc num s h1 h2 x hx
    rcases List.mem_cons.mp hx with rfl | hx
    · exact (name_free h1).1
    rcases List.mem_cons.mp hx with rfl | hx
    · exact num_free num
    rcases List.mem_cons.mp hx with rfl | hx
    · exact tags_free _ (tag_mem s)
    · exact toks_free h2 (fun _ _ _ => trivial) x hx
  have e2 := inter_inj (List.cons_ne_nil _ _) (List.cons_ne_nil _ _) (fr h1 k1) (fr h2 k2) e
  obtain ⟨q1, e2⟩ := List.cons.inj e2
  obtain ⟨q2, e2⟩ := List.cons.inj e2
  obtain ⟨q3, e2⟩ := List.cons.inj e2
  exact ⟨cods_inj q1, num_inj n1 n2 q2, toks_inj k1 k2 (cods_inj q3) e2⟩
end Lv
set_option maxHeartbeats 4000000
namespace Lv
open PySem PySem.Spec PyProof.Rows L2
theorem dot_one : ("." : Str) = ⟨#[46]⟩ := by decide +kernel
theorem split_of {ps : List Str} (h0 : ps ≠ []) (h1 : ∀ p ∈ ps, 46 ∉ cods p) (hz : cods (Str.join "." ps) ≠ []) : PySem.Txt.split (Str.join "." ps) "." = ps := by
  have e := StrLaws.join_split (Str.join "." ps) "."
  have e2 := congrArg cods e
  rw [join_inter dot_cods, join_inter dot_cods] at e2
  have ne : PySem.Txt.split (Str.join "." ps) "." ≠ [] := fun q => by
    rw [q] at e
    exact hz (by rw [← e]; rfl)
  have e3 := inter_inj (by simpa using ne) (by simpa using h0) (fun x hx => ?_) (fun x hx => ?_) e2
  · have inj : ∀ {as bs : List Str}, as.map cods = bs.map cods → as = bs := by
      intro as
      induction as with
      | nil =>
        intro bs h
        cases bs with
        | nil => rfl
        | cons _ _ => cases h
      | cons a as ih =>
        intro bs h
        cases bs with
        | nil => cases h
        | cons b bs =>
          obtain ⟨q1, q2⟩ := List.cons.inj h
          rw [cods_inj q1, ih q2]
    exact inj e3
  · obtain ⟨p, hp, rfl⟩ := List.mem_map.mp hx
    rw [dot_one] at hp
    exact StrLaws.split_free _ 46 p hp
  · obtain ⟨p, hp, rfl⟩ := List.mem_map.mp hx
    exact h1 p hp
theorem cods_ne {z : Str} (h : nameOk z = true) : cods z ≠ [] := fun e => by
  obtain ⟨c, hc⟩ := madeOf_first (band h).1
  have hc : (cods z)[0]? = some c := hc
  rw [e] at hc
  cases hc
theorem subj1 {z : Str} (h : nameOk z = true) : subjOk z = true := by
  have e := split_of (ps := [z]) (by simp) (by simpa using (name_free h).2) (cods_ne h)
  have e : PySem.Txt.split z "." = [z] := e
  unfold subjOk
  rw [e, Bool.and_eq_true]
  exact ⟨decide_eq_true ⟨name1000 h, by show 1 < 3; decide⟩, by simp [h]⟩
theorem subj2 {y z : Str} (hy : nameOk y = true) (hz : nameOk z = true) : subjOk (y ++ ("." : Str) ++ z) = true := by
  have e := split_of (ps := [y, z]) (by simp) (fun p hp => by
    rcases List.mem_cons.mp hp with rfl | hp
    · exact (name_free hy).2
    · obtain rfl := List.mem_singleton.mp hp
      exact (name_free hz).2) (by
    show cods (y ++ ("." : Str) ++ z) ≠ []
    rw [cods_app, cods_app, dot_cods]
    simp)
  have e : PySem.Txt.split (y ++ ("." : Str) ++ z) "." = [y, z] := e
  have l1 := nameOk_len hy
  have l2 := nameOk_len hz
  have l3 : ("." : Str).length = 1 := by decide +kernel
  unfold subjOk
  rw [e, Bool.and_eq_true]
  exact ⟨decide_eq_true ⟨by rw [str_len, str_len]; omega, by simp⟩, by simp [hy, hz]⟩
theorem wk_words : nameOk "hide" = true ∧ nameOk "mute" = true ∧ nameOk "move" = true := by decide +kernel
theorem pick_strs {H : Hp} {a : PenA} {n : Nat} {l : Addr} {zs : List Str} {Q : VK} (pa : PenAt H a n) (hn : n ≤ 1000000) (e : H l = some (.lst (zs.map V.str))) (h1 : 1 ≤ zs.length) (h2 : zs.length ≤ 1000) (q : ∀ (H' : Hp) (z : Str), But1 a.p H H' → PenAt H' a (n + 1) → z ∈ zs → Q (.str z) H') : sp_law_pick [.ref a.p, .ref l] H Q E0 :=
  pick_of pa hn e (by simpa using h1) (by simpa using h2) fun H' y b pa2 hy => by
    obtain ⟨k, hk, rfl⟩ := List.mem_map.mp hy
    exact q H' k b pa2 hk
def SayOk (names : List Str) (s : Say) : Prop := s.ok = true ∧ ∀ x ∈ aims s, x ∈ names
section
variable {P : Program} {w : World} {K : PySem.W.Frag} {mg : Str → Option Value} {base : Heap}
def sp_law_some_saying : Sp := sp3 fun v x0 x1 H Q => ∃ (a : PenA) (n : Nat) (R l : Addr) (d : RowsD) (names : List Str), v = .ref a.p ∧ PenAt H a n ∧ n + 20 ≤ 1000000 ∧ x0 = .ref R ∧ RowsAt H R d ∧ R ≠ a.p ∧ d.Ok names ∧ x1 = .ref l ∧ H l = some (.lst (names.map V.str)) ∧ NamesOk names ∧ 3 ≤ names.length ∧ names.length ≤ 10 ∧
  ∀ (H' : Hp) (n' : Nat) (s : Say) (y : V), But1 a.p H H' → PenAt H' a n' → n' ≤ n + 6 → Tv H' s.dt y → SayOk names s → Q y H'
abbrev N__law_some_saying : List Str := ["pen", "rows", "names", "way", "subject"]
theorem sc__law_some_saying : FnScope N__law_some_saying ["pen", "rows", "names"] (defScope s__law_some_saying) := ⟨rfl, rfl, rfl, by decide +kernel, rfl, by decide +kernel, by decide +kernel⟩
theorem ok__law_some_saying (T : Txt K mg) : CallOk P w K mg base 3 "_law_some_saying" ["pen", "rows", "names"] [] sp_law_some_saying := by
  refine call_ok T 78 T.g__law_some_saying sc__law_some_saying (fun vs H Q E h => ?_) (fun f cdv A outer s H vs Q E hr h => ?_) (fun _ _ _ _ _ _ us hl => match us, hl with | [_, _, _], _ => rfl)
  · obtain ⟨x0, x1, x2, rfl, _⟩ := h
    rfl
  · have nd := sc__law_some_saying.nd
    have hu := hu_of hr
    have hu64 := hu64_of hr
    have c__law_pick := ok__law_pick (P := P) (w := w) (base := base) T
    have c__law_draw := ok__law_draw (P := P) (w := w) (base := base) T
    obtain ⟨x0, x1, x2, rfl, h⟩ := h
    refine ⟨_, (pss_cons (ps_set (i := 3) nd rfl (Or.inl rfl) (pe_callO c__law_draw (hr.mono (by first | decide | omega)) (pa_cons (pv 0) (pa_cons pe_int pa_nil)))) (pss_cons (ps_if (pt_cmpR op_lt (pv 3) pe_int (nomark _)) (pss_one (ps_ret (pe_tup (pa_cons pe_str (pa_cons (pe_callO c__law_pick (hr.mono (by first | decide | omega)) (pa_cons (pv 0) (pa_cons (pv 2) pa_nil))) (pa_cons (pe_callO c__law_pick (hr.mono (by first | decide | omega)) (pa_cons (pv 0) (pa_cons (pe_lst (pa_cons pe_int (pa_cons pe_int (pa_cons pe_int (pa_cons pe_int (pa_cons pe_int (pa_cons pe_int pa_nil))))))) pa_nil))) pa_nil)))))) pss_nil) (pss_cons (ps_if (pt_cmpR op_lt (pv 3) pe_int (nomark _)) (pss_one (ps_ret (pe_tup (pa_cons pe_str (pa_cons (pe_callO c__law_pick (hr.mono (by first | decide | omega)) (pa_cons (pv 0) (pa_cons (pv 2) pa_nil))) (pa_cons (pe_cmpR op_gt (pe_callO c__law_draw (hr.mono (by first | decide | omega)) (pa_cons (pv 0) (pa_cons pe_int pa_nil))) pe_int (nomark _)) pa_nil)))))) pss_nil) (pss_cons (ps_set (i := 4) nd rfl (Or.inl rfl) (pe_ix (ixL (K := K)) (pe_lst (pa_cons (pe_ix (ixL (K := K)) (pv 2) pe_int (fun _ _ => rfl)) (pa_cons (pe_op op_add_str (pe_op op_add_str (pe_ix (ixL (K := K)) (pv 2) (pe_un un_neg pe_int) (fun _ _ => rfl)) pe_str) (pe_ix (ixL (K := K)) (pv 2) pe_int (fun _ _ => rfl))) pa_nil))) (pe_callO c__law_draw (hr.mono (by first | decide | omega)) (pa_cons (pv 0) (pa_cons pe_int pa_nil))) (fun _ _ => rfl))) (pss_one (ps_ret (pe_tup (pa_cons pe_str (pa_cons (pe_ix (ixT (K := K)) (pe_ix (ixT (K := K)) (pe_dget hu (pv 1) pe_str (fun _ _ => rfl)) (pe_callO c__law_draw (hr.mono (by first | decide | omega)) (pa_cons (pv 0) (pa_cons pe_int pa_nil))) (fun _ _ => rfl)) pe_int (fun _ _ => rfl)) (pa_cons (pv 4) (pa_cons (pe_callO c__law_pick (hr.mono (by first | decide | omega)) (pa_cons (pv 0) (pa_cons (pe_lst (pa_cons pe_str (pa_cons pe_str (pa_cons pe_str (pa_cons pe_str (pa_cons pe_str pa_nil)))))) pa_nil))) pa_nil))))))))))), ?_⟩
    obtain ⟨a, n, R, l, d, names, rfl, pa, hn, rfl, hR, nR, dok, rfl, el, nok, l3, l10, q⟩ := h
    have z1001 : (1001 : Nat) ≤ sizeLine := by decide
    have z3 : 3 ≤ sizeLine := by decide
    refine ⟨_, rfl, _, _, rfl, _, _, _, rfl, pa, by omega, rfl, by omega, by omega, fun H1 k1 b1 pa1 k10 k11 => ⟨_, rfl, _, _, rfl, rfl, _, rfl, iteB (fun _ => ?_) (fun _ => ⟨_, rfl, _, _, rfl, rfl, _, rfl, iteB (fun _ => ?_) (fun _ => ?_)⟩)⟩⟩
    · refine ⟨_, rfl, _, rfl, pick_strs pa1 (by omega) (pa.lst b1 el) (by omega) (by omega) fun H2 x b2 pa2 hx => ⟨_, rfl, by show 6 ≤ sizeLine; decide, fun l2 hl2 => pick_ints (ns := [0, 1, 1, 2, 3, 24]) pa2 (by omega) hl2 (by decide) (by decide) fun H3 k b3 pa3 hk => ⟨z3, fun t ht => ?_⟩⟩⟩
      have hk : 0 ≤ k ∧ k ≤ 24 := by simp at hk; omega
      have s4 := same_new (o := .tup [.str "vouch", .str x, .int k]) ht
      refine q _ (n + 3) (.vouch x k) (.ref t) (((b1.trans b2).trans b3).trans (but_same s4)) (pa3.same s4) (by omega) ⟨t, _, rfl, upd_same, rfl, rfl, rfl, trivial⟩ ⟨?_, ?_⟩
      · show (nameOk x && decide (0 ≤ k ∧ k ≤ 24)) = true
        rw [nok.ok x hx, decide_eq_true hk]
        rfl
      · intro y hy
        obtain rfl := List.mem_singleton.mp hy
        exact hx
    · refine ⟨_, rfl, _, rfl, pick_strs pa1 (by omega) (pa.lst b1 el) (by omega) (by omega) fun H2 x b2 pa2 hx => ⟨_, rfl, _, _, rfl, _, _, _, rfl, pa2, by omega, rfl, by omega, by omega, fun H3 k b3 pa3 k30 k31 => ⟨_, _, rfl, rfl, z3, fun t ht => ?_⟩⟩⟩
      have s4 := same_new (o := .tup [.str "back", .str x, .bl (decide (k > 0))]) ht
      refine q _ (n + 3) (.back x (decide (k > 0))) (.ref t) (((b1.trans b2).trans b3).trans (but_same s4)) (pa3.same s4) (by omega) ⟨t, _, rfl, upd_same, rfl, rfl, rfl, trivial⟩ ⟨nok.ok x hx, fun y hy => ?_⟩
      obtain rfl := List.mem_singleton.mp hy
      exact hx
    · have el1 := pa.lst b1 el
      obtain ⟨z0, zr, rfl⟩ : ∃ z0 zr, names = z0 :: zr := by
        cases names with
        | nil => simp at l3
        | cons z0 zr => exact ⟨z0, zr, rfl⟩
      obtain ⟨ys, zl, ey⟩ : ∃ ys zl, z0 :: zr = ys ++ [zl] := ⟨(z0 :: zr).dropLast, (z0 :: zr).getLast (by simp), (List.dropLast_concat_getLast (by simp)).symm⟩
      have hz0 : nameOk z0 = true := nok.ok z0 List.mem_cons_self
      have hzl : nameOk zl = true := nok.ok zl (by rw [ey]; simp)
      have m0 := nameOk_len hz0
      have ml := nameOk_len hzl
      have md : ("." : Str).length = 1 := by decide +kernel
      have at0 : atI ((z0 :: zr).map V.str) 0 = some (.str z0) := atI_nat (j := 0) rfl
      have atl : atI ((z0 :: zr).map V.str) (-1) = some (.str zl) := by
        rw [ey, List.map_append]
        exact atI_last _ _
      refine ⟨_, rfl, _, _, _, _, rfl, rfl, SqL.of el1, at0, _, rfl, _, rfl, _, _, _, _, rfl, rfl, SqL.of el1, atl, _, _, rfl, rfl, by omega, _, rfl, _, _, _, _, rfl, rfl, SqL.of el1, at0, _, _, rfl, rfl, by rw [str_len]; omega, by show 2 ≤ sizeLine; decide, fun l2 hl2 => ?_⟩
      have s2 := same_new (o := .lst [.str z0, .str (zl ++ ("." : Str) ++ z0)]) hl2
      have e2 : (upd H1 l2 (.lst [.str z0, .str (zl ++ ("." : Str) ++ z0)])) l2 = some (.lst [.str z0, .str (zl ++ ("." : Str) ++ z0)]) := upd_same
      have pa2 := pa1.same s2
      have b2 := b1.trans (but_same s2)
      generalize upd H1 l2 (.lst [.str z0, .str (zl ++ ("." : Str) ++ z0)]) = H2 at s2 e2 pa2 b2 ⊢
      refine ⟨_, rfl, _, _, rfl, _, _, _, rfl, pa2, by omega, rfl, by omega, by omega, fun H3 k3 b3 pa3 k30 k31 => ?_⟩
      have e3 := pa2.lst b3 e2
      obtain ⟨sj, hsj, asj⟩ : ∃ sj, subjOk sj = true ∧ atI [V.str z0, .str (zl ++ ("." : Str) ++ z0)] k3 = some (.str sj) := by
        have hk : k3 = ((0 : Nat) : Int) ∨ k3 = ((1 : Nat) : Int) := by omega
        rcases hk with rfl | rfl
        · exact ⟨z0, subj1 hz0, atI_nat (j := 0) rfl⟩
        · exact ⟨_, subj2 hzl hz0, atI_nat (j := 1) rfl⟩
      have b03 := b2.trans b3
      obtain ⟨v0, v1, v2, v3, v4, eR, tR⟩ := hR.but b03 nR (pa.tk b03)
      obtain ⟨t3, xs3, rfl, e33, tv3⟩ := tR.2.2.2.1
      have lrs : d.rs.length = 3 := by
        have := dok.r1.length_eq
        simpa using this
      have lxs : xs3.length = 3 := by rw [← tv3.length, List.length_map, lrs]
      have gR : DGet H3 R (kV (Sum.inr "rules")) (some (.ref t3)) := dd_rows_rules .. ▸ DGet.k (k := Sum.inr "rules") eR
      refine ⟨_, _, _, _, rfl, rfl, SqL.of e3, asj, _, rfl, R, _, rfl, gR, _, rfl, _, _, rfl, _, _, _, rfl, pa3, by omega, rfl, by omega, by omega, fun H4 k4 b4 pa4 k40 k41 => ?_⟩
      have e34 := pa3.tk b4 _ _ e33
      have tv4 := tv3.keep (pa3.tk b4)
      have hk4 : k4.toNat < xs3.length := by omega
      obtain ⟨r, hr, tr⟩ := TvAll.mapGet tv4 (List.getElem?_eq_getElem hk4)
      obtain ⟨tr1, xr, er, er2, tvr⟩ := tr
      obtain ⟨xr', rfl⟩ : ∃ xr', xr = .str r.1 :: xr' := by
        match xr, tvr with
        | x :: xr', ⟨h, _⟩ => exact ⟨xr', by rw [show x = .str r.1 from h]⟩
      have ek4 : k4 = ((k4.toNat : Nat) : Int) := by omega
      have hw : nameOk r.1 = true := by
        have hm : r.1 ∈ d.rs.map (·.1) := List.mem_map_of_mem (List.mem_of_getElem? hr)
        have hm := dok.r1.mem_iff.mp hm
        simp only [List.mem_cons, List.not_mem_nil, or_false] at hm
        rcases hm with h | h | h <;> rw [h]
        · exact wk_words.1
        · exact wk_words.2.1
        · exact wk_words.2.2
      refine ⟨t3, _, _, _, rfl, rfl, SqT.of e34, ?_, tr1, _, _, _, rfl, rfl, SqT.of er2, atI_nat (j := 0) rfl, _, rfl, _, rfl, by show 5 ≤ sizeLine; decide, fun l5 hl5 => ?_⟩
      · rw [ek4, ← er]
        exact atI_nat (List.getElem?_eq_getElem hk4)
      refine pick_new (xs := [V.str "for", .str "for", .str "for", .str "against", .str "none"]) pa4 (by omega) hl5 (by decide) (by decide) fun H5 y b5 pa5 hy => ?_
      obtain ⟨side, rfl, hside⟩ : ∃ side, y = .str side ∧ side ∈ [("for" : Str), "against", "none"] := by
        simp only [List.mem_cons, List.not_mem_nil, or_false] at hy
        rcases hy with h | h | h | h | h <;> exact ⟨_, h, by simp⟩
      refine ⟨by show 4 ≤ sizeLine; decide, fun t ht => ?_⟩
      have s6 := same_new (o := .tup [.str "speak", .str r.1, .str sj, .str side]) ht
      refine q _ (n + 4) (.speak r.1 sj side) (.ref t) (((b03.trans b4).trans b5).trans (but_same s6)) (pa5.same s6) (by omega) ⟨t, _, rfl, upd_same, rfl, rfl, rfl, rfl, trivial⟩ ⟨?_, fun y hy => by cases hy⟩
      show (nameOk r.1 && (subjOk sj && decide (side ∈ [("for" : Str), "against", "none"]))) = true
      rw [hw, hsj, decide_eq_true hside]
      rfl
end
end Lv
set_option maxHeartbeats 4000000
namespace Lv
open PySem PySem.Spec PyProof.Rows L2
def psDt (x : Str × Say) : Dt := .tup [.str x.1, x.2.dt]
def PsOk (names : List Str) (x : Str × Say) : Prop := x.1 ∈ names ∧ SayOk names x.2
def LstAt {α : Type} (H : Hp) (c : Addr) (f : α → Dt) (as : List α) : Prop := ∃ xs, H c = some (.lst xs) ∧ TvAll H (as.map f) xs
theorem LstAt.keep {α : Type} {H H' : Hp} {c : Addr} {f : α → Dt} {as : List α} (k : Tk H H') (e : ∀ xs, H c = some (.lst xs) → H' c = some (.lst xs)) (h : LstAt H c f as) : LstAt H' c f as := by
  obtain ⟨xs, h1, h2⟩ := h
  exact ⟨xs, e _ h1, h2.keep k⟩
theorem LstAt.same {α : Type} {H H' : Hp} {c : Addr} {f : α → Dt} {as : List α} (s : Same H H') (h : LstAt H c f as) : LstAt H' c f as := h.keep (tk_same s) fun _ e => s _ _ e
theorem LstAt.pen {α : Type} {H H' : Hp} {c : Addr} {f : α → Dt} {as : List α} {a : PenA} {n : Nat} (pa : PenAt H a n) (b : But1 a.p H H') (h : LstAt H c f as) : LstAt H' c f as := h.keep (pa.tk b) fun _ e => pa.lst b e
theorem LstAt.snoc {α : Type} {H : Hp} {c : Addr} {f : α → Dt} {as : List α} {x : α} {y : V} (h : LstAt H c f as) (t : Tv H (f x) y) : ∃ xs, H c = some (.lst xs) ∧ xs.length = as.length ∧ LstAt (upd H c (.lst (xs ++ [y]))) c f (as ++ [x]) ∧ Tk H (upd H c (.lst (xs ++ [y]))) := by
  obtain ⟨xs, h1, h2⟩ := h
  have k : Tk H (upd H c (.lst (xs ++ [y]))) := tk_mut h1 (by intro _ z; cases z)
  exact ⟨xs, h1, by rw [← h2.length, List.length_map], ⟨_, upd_same, by rw [List.map_append]; exact (h2.keep k).app (TvAll.one (t.keep k))⟩, k⟩
section
variable {P : Program} {w : World} {K : PySem.W.Frag} {mg : Str → Option Value} {base : Heap}
def sp_law_frame : Sp := sp2 fun v x0 H Q => ∃ (a : PenA) (n : Nat) (l : Addr) (names : List Str), v = .ref a.p ∧ PenAt H a n ∧ n + 200 ≤ 1000000 ∧ x0 = .ref l ∧ H l = some (.lst (names.map V.str)) ∧ NamesOk names ∧ 3 ≤ names.length ∧ names.length ≤ 10 ∧
  ∀ (H' : Hp) (n' : Nat) (r : Addr) (ps : List (Str × Say)), But1 a.p H H' → PenAt H' a n' → n' ≤ n + 120 → H r = none → LstAt H' r psDt ps → (∀ p ∈ ps, PsOk names p) → ps.length ≤ 30 → Q (.ref r) H'
abbrev N__law_frame : List Str := ["pen", "names", "found", "index", "lap"]
theorem sc__law_frame : FnScope N__law_frame ["pen", "names"] (defScope s__law_frame) := ⟨rfl, rfl, rfl, by decide +kernel, rfl, by decide +kernel, by decide +kernel⟩
theorem ok__law_frame (T : Txt K mg) : CallOk P w K mg base 3 "_law_frame" ["pen", "names"] [] sp_law_frame := by
  refine call_ok T 79 T.g__law_frame sc__law_frame (fun vs H Q E h => ?_) (fun f cdv A outer s H vs Q E hr h => ?_) (fun _ _ _ _ _ _ us hl => match us, hl with | [_, _], _ => rfl)
  · obtain ⟨x0, x1, rfl, _⟩ := h
    rfl
  · have nd := sc__law_frame.nd
    have hu := hu_of hr
    have hu64 := hu64_of hr
    have c__law_pick := ok__law_pick (P := P) (w := w) (base := base) T
    have c__law_draw := ok__law_draw (P := P) (w := w) (base := base) T
    have c__law_shuffled := ok__law_shuffled (P := P) (w := w) (base := base) T
    obtain ⟨x0, x1, rfl, h⟩ := h
    refine ⟨_, (pss_cons (ps_set (i := 2) nd rfl (Or.inl rfl) (pe_lst pa_nil)) (pss_cons (ps_for PassesOwn.never rfl (pi_range2 (by rfl) T.b_range (pa_cons pe_int (pa_cons (pe_callB (lenSK (K := K)) (by rfl) T.b_len boot_len (pa_cons (pv 1) pa_nil)) pa_nil))) (pg_name (i := 3) nd rfl (Or.inl rfl)) (pss_one (ps_if (pt_cmpR op_gt (pe_callO c__law_draw (hr.mono (by first | decide | omega)) (pa_cons (pv 0) (pa_cons pe_int pa_nil))) pe_int (nomark _)) (pss_one (ps_expr (pe_bm PySem.F.plainAttrs_list PySem.F.slot_list_append PySem.F.type_list_append mt_append (pv 2) (pa_cons (pe_tup (pa_cons (pe_callO c__law_pick (hr.mono (by first | decide | omega)) (pa_cons (pv 0) (pa_cons (pe_slice (slLK (K := K)) (pv 1) po_none (po_some (pv 3))) pa_nil))) (pa_cons (pe_tup (pa_cons pe_str (pa_cons (pe_ix (ixL (K := K)) (pv 1) (pv 3) (fun _ _ => rfl)) (pa_cons (pe_callO c__law_pick (hr.mono (by first | decide | omega)) (pa_cons (pv 0) (pa_cons (pe_lst (pa_cons pe_int (pa_cons pe_int (pa_cons pe_int (pa_cons pe_int (pa_cons pe_int pa_nil)))))) pa_nil))) pa_nil)))) pa_nil))) pa_nil)))) pss_nil))) (pss_cons (ps_for PassesOwn.never rfl (pi_range1 (by rfl) T.b_range (pa_cons (pe_callO c__law_draw (hr.mono (by first | decide | omega)) (pa_cons (pv 0) (pa_cons (pe_op op_add (pe_op op_mul pe_int (pe_callB (lenSK (K := K)) (by rfl) T.b_len boot_len (pa_cons (pv 1) pa_nil))) pe_int) pa_nil))) pa_nil)) (pg_name (i := 4) nd rfl (Or.inl rfl)) (pss_one (ps_expr (pe_bm PySem.F.plainAttrs_list PySem.F.slot_list_append PySem.F.type_list_append mt_append (pv 2) (pa_cons (pe_tup (pa_cons (pe_callO c__law_pick (hr.mono (by first | decide | omega)) (pa_cons (pv 0) (pa_cons (pv 1) pa_nil))) (pa_cons (pe_tup (pa_cons pe_str (pa_cons (pe_callO c__law_pick (hr.mono (by first | decide | omega)) (pa_cons (pv 0) (pa_cons (pe_slice (slLK (K := K)) (pv 1) po_none (po_some pe_int)) pa_nil))) (pa_cons pe_bl pa_nil)))) pa_nil))) pa_nil))))) (pss_one (ps_ret (pe_callO c__law_shuffled (hr.mono (by first | decide | omega)) (pa_cons (pv 0) (pa_cons (pv 2) pa_nil)))))))), ?_⟩
    obtain ⟨a, n, l, names, rfl, pa, hn, rfl, el, nok, l3, l10, q⟩ := h
    have z1001 : (1001 : Nat) ≤ sizeLine := by decide
    have z3 : 3 ≤ sizeLine := by decide
    have hlm : (names.map V.str).length = names.length := List.length_map _
    refine ⟨by decide, fun c hc => ?_⟩
    have s1 := same_new (o := .lst []) hc
    refine ⟨_, rfl, l, _, rfl, .inl (SqL.of (s1 _ _ el)), 1, _, rfl, ⟨by omega, by omega, by omega, by omega⟩, for_it (walk_range (lo := 1)) (fun i σ H2 => ∃ (v3 v4 : Option V) (n2 : Nat) (ps : List (Str × Say)), σ = [some (.ref a.p), some (.ref l), some (.ref c), v3, v4] ∧ But1 a.p H H2 ∧ PenAt H2 a n2 ∧ n2 ≤ n + 3 * i ∧ LstAt H2 c psDt ps ∧ ps.length ≤ i ∧ ∀ p ∈ ps, PsOk names p)
      ⟨_, _, n, [], rfl, but_same s1, pa.same s1, by omega, ⟨_, upd_same, trivial⟩, Nat.le_refl _, by simp⟩ (fun _ _ _ _ _ => trivial) ?_ ?_⟩
    · rintro i x σ H2 H3 hi ⟨v3, v4, n2, ps, rfl, b2, pa2, hn2, lp, hl, hp⟩ ⟨rfl, hx⟩
      have hx : x = .int ((1 + i : Nat) : Int) := hx.trans (congrArg V.int (by omega))
      subst hx
      refine ⟨_, rfl, _, _, rfl, _, _, _, rfl, pa2, by omega, rfl, by omega, by omega, fun H4 k4 b4 pa4 k40 k41 => ⟨_, _, rfl, rfl, _, rfl, iteB (fun _ => ?_) (fun _ => ⟨_, _, n2 + 1, ps, rfl, b2.trans b4, pa4, by omega, lp.pen pa2 b4, by omega, hp⟩)⟩⟩
      obtain ⟨xs4, ex4, _⟩ := id (lp.pen pa2 b4)
      have el4 := pa.lst (b2.trans b4) el
      have hix : 1 + i < names.length := by omega
      refine ⟨_, rfl, .inl ⟨rfl, _, SqL.of ex4⟩, _, rfl, _, rfl, _, rfl, _, rfl, l, _, rfl, SqL.of el4, fun sl hsl => ?_⟩
      rw [cutV_lo, ← List.map_take]
      refine pick_new pa4 (by omega) hsl (by rw [List.length_map, List.length_take]; omega) (by rw [List.length_map, List.length_take]; omega) fun H5 y5 b5 pa5 hy5 => ?_
      obtain ⟨z5, hz5, rfl⟩ := List.mem_map.mp hy5
      have hz5 := List.mem_of_mem_take hz5
      have el5 := pa4.lst b5 el4
      have gi : (names.map V.str)[1 + i]? = some (.str names[1 + i]) := by rw [List.getElem?_map, List.getElem?_eq_getElem hix]; rfl
      refine ⟨_, rfl, _, rfl, l, _, _, _, rfl, rfl, SqL.of el5, atI_nat (j := 1 + i) gi, _, rfl, by decide, fun l6 hl6 => pick_ints (ns := [1, 1, 2, 3, 24]) pa5 (by omega) hl6 (by decide) (by decide) fun H6 k6 b6 pa6 hk6 => ⟨z3, fun t7 ht7 => ⟨by show 2 ≤ sizeLine; decide, fun t8 ht8 => ?_⟩⟩⟩
      have hk6 : 0 ≤ k6 ∧ k6 ≤ 24 := by simp at hk6; omega
      have s7 := same_new (o := .tup [.str "vouch", .str names[1 + i], .int k6]) ht7
      have s8 := same_new (o := .tup [.str z5, .ref t7]) ht8
      have bA := ((b4.trans b5).trans b6).trans (but_same (s7.trans s8))
      have hm : names[1 + i] ∈ names := List.getElem_mem hix
      obtain ⟨xs, ex, lx, lp2, _⟩ := (lp.pen pa2 bA).snoc (f := psDt) (x := (z5, Say.vouch names[1 + i] k6)) (y := .ref t8) ⟨t8, _, rfl, upd_same, rfl, ⟨t7, _, rfl, s8 _ _ upd_same, rfl, rfl, rfl, trivial⟩, trivial⟩
      refine ⟨c, _, _, rfl, rfl, ex, by omega, _, _, n2 + 3, _, rfl, (b2.trans bA).upd_free hc, pa.upd (pa6.same (s7.trans s8)) hc, by omega, lp2, by simp; omega, fun p hp2 => ?_⟩
      rcases List.mem_append.mp hp2 with hp2 | hp2
      · exact hp p hp2
      · obtain rfl := List.mem_singleton.mp hp2
        refine ⟨hz5, ?_, fun y hy => ?_⟩
        · show (nameOk names[1 + i] && decide (0 ≤ k6 ∧ k6 ≤ 24)) = true
          rw [nok.ok _ hm, decide_eq_true hk6]
          rfl
        · obtain rfl := List.mem_singleton.mp hy
          exact hm
    · rintro σ H2 ⟨v3, v4, n2, ps, rfl, b2, pa2, hn2, lp, hl, hp⟩
      have el2 := pa.lst b2 el
      refine ⟨_, rfl, _, rfl, l, _, rfl, .inl (SqL.of el2), _, _, rfl, rfl, .inl ⟨by decide, by decide⟩, _, _, rfl, rfl, _, _, rfl, _, _, _, rfl, pa2, by omega, rfl, by omega, by omega, fun H3 k3 b3 pa3 k30 k31 => ⟨_, rfl, by omega, by omega, for_it walk_range (fun i σ H4 => ∃ (v4 : Option V) (n4 : Nat) (ps : List (Str × Say)), σ = [some (.ref a.p), some (.ref l), some (.ref c), v3, v4] ∧ But1 a.p H H4 ∧ PenAt H4 a n4 ∧ n4 ≤ n2 + 1 + 2 * i ∧ LstAt H4 c psDt ps ∧ ps.length ≤ (names.length - 1) + i ∧ ∀ p ∈ ps, PsOk names p)
        ⟨_, n2 + 1, ps, rfl, b2.trans b3, pa3, by omega, lp.pen pa2 b3, by omega, hp⟩ (fun _ _ _ _ _ => trivial) ?_ ?_⟩⟩
      · rintro i x σ H4 H5 hi ⟨v4, n4, ps, rfl, b4, pa4, hn4, lp, hl, hp⟩ ⟨rfl, rfl⟩
        obtain ⟨xs4, ex4, _⟩ := id lp
        have el4 := pa.lst b4 el
        refine ⟨_, rfl, .inl ⟨rfl, _, SqL.of ex4⟩, _, rfl, _, rfl, pick_strs pa4 (by omega) el4 (by omega) (by omega) fun H6 z6 b6 pa6 hz6 => ⟨_, rfl, _, rfl, _, rfl, l, _, rfl, SqL.of (pa4.lst b6 el4), fun sl hsl => ?_⟩⟩
        rw [show (3 : Int) = ((3 : Nat) : Int) by rfl, cutV_lo, ← List.map_take]
        refine pick_new pa6 (by omega) hsl (by rw [List.length_map, List.length_take]; omega) (by rw [List.length_map, List.length_take]; omega) fun H7 y7 b7 pa7 hy7 => ?_
        obtain ⟨z7, hz7, rfl⟩ := List.mem_map.mp hy7
        have hz7 := List.mem_of_mem_take hz7
        refine ⟨z3, fun t7 ht7 => ⟨by show 2 ≤ sizeLine; decide, fun t8 ht8 => ?_⟩⟩
        have s7 := same_new (o := .tup [.str "back", .str z7, .bl true]) ht7
        have s8 := same_new (o := .tup [.str z6, .ref t7]) ht8
        have bA := (b6.trans b7).trans (but_same (s7.trans s8))
        obtain ⟨xs, ex, lx, lp2, _⟩ := (lp.pen pa4 bA).snoc (f := psDt) (x := (z6, Say.back z7 true)) (y := .ref t8) ⟨t8, _, rfl, upd_same, rfl, ⟨t7, _, rfl, s8 _ _ upd_same, rfl, rfl, rfl, trivial⟩, trivial⟩
        refine ⟨c, _, _, rfl, rfl, ex, by omega, _, n4 + 2, _, rfl, (b4.trans bA).upd_free hc, pa.upd (pa7.same (s7.trans s8)) hc, by omega, lp2, by simp; omega, fun p hp2 => ?_⟩
        rcases List.mem_append.mp hp2 with hp2 | hp2
        · exact hp p hp2
        · obtain rfl := List.mem_singleton.mp hp2
          refine ⟨hz6, nok.ok z7 hz7, fun y hy => ?_⟩
          obtain rfl := List.mem_singleton.mp hy
          exact hz7
      · rintro σ H4 ⟨v4, n4, ps, rfl, b4, pa4, hn4, lp, hl, hp⟩
        obtain ⟨xs4, ex4, tv4⟩ := id lp
        have lx4 : xs4.length = ps.length := by rw [← tv4.length, List.length_map]
        refine ⟨_, rfl, _, rfl, _, _, rfl, a, n4, c, xs4, rfl, pa4, by omega, rfl, ex4, by omega, fun H5 r ys b5 pa5 hr er hpm => ?_⟩
        obtain ⟨ps', hps, tv5⟩ := TvAll.permMap hpm (tv4.keep (pa4.tk b5))
        have lps := hps.length_eq
        exact q _ _ r ps' (b4.trans b5) pa5 (by omega) (b4.free hr fun z => pa4.p_occ (by rw [← z]; exact hr)) ⟨ys, er, tv5⟩ (fun p hp2 => hp p (hps.mem_iff.mp hp2)) (by omega)
end
end Lv
set_option maxHeartbeats 4000000
namespace Lv
open PySem PySem.Spec PyProof.Rows L2
abbrev LR := Str × Int × Say
def lrDt (x : LR) : Dt := .tup [.str x.1, .int x.2.1, x.2.2.dt]
structure LrOk (names : List Str) (x : LR) : Prop where
  a : x.1 ∈ names
  lo : 1 ≤ x.2.1
  hi : x.2.1 ≤ 10 ^ 24
  s : SayOk names x.2.2
def LastOk (b : Int) (kvs : List (Key × V)) : Prop := ∀ k v, valV kvs k = some v → ∃ j : Int, v = .int j ∧ 1 ≤ j ∧ j ≤ b
section
variable {P : Program} {w : World} {K : PySem.W.Frag} {mg : Str → Option Value} {base : Heap}
def sp_law_some_letters : Sp := sp4 fun v x0 x1 x2 H Q => ∃ (a : PenA) (n : Nat) (R l : Addr) (d : RowsD) (names : List Str) (many : Nat), v = .ref a.p ∧ PenAt H a n ∧ n + 1000 ≤ 1000000 ∧ x0 = .ref R ∧ RowsAt H R d ∧ R ≠ a.p ∧ d.Ok names ∧ x1 = .ref l ∧ H l = some (.lst (names.map V.str)) ∧ NamesOk names ∧ 3 ≤ names.length ∧ names.length ≤ 10 ∧ x2 = .int many ∧ many ≤ 10 ∧
  ∀ (H' : Hp) (n' : Nat) (r : Addr) (rs : List LR), But1 a.p H H' → PenAt H' a n' → n' ≤ n + 600 → H r = none → LstAt H' r lrDt rs → (∀ x ∈ rs, LrOk names x) → rs.length ≤ 40 → Q (.ref r) H'
abbrev N__law_some_letters : List Str := ["pen", "rows", "names", "many", "last", "found", "said", "lap", "account", "saying", "number"]
theorem sc__law_some_letters : FnScope N__law_some_letters ["pen", "rows", "names", "many"] (defScope s__law_some_letters) := ⟨rfl, rfl, rfl, by decide +kernel, rfl, by decide +kernel, by decide +kernel⟩
theorem ok__law_some_letters (T : Txt K mg) : CallOk P w K mg base 4 "_law_some_letters" ["pen", "rows", "names", "many"] [] sp_law_some_letters := by
  refine call_ok T 80 T.g__law_some_letters sc__law_some_letters (fun vs H Q E h => ?_) (fun f cdv A outer s H vs Q E hr h => ?_) (fun _ _ _ _ _ _ us hl => match us, hl with | [_, _, _, _], _ => rfl)
  · obtain ⟨x0, x1, x2, x3, rfl, _⟩ := h
    rfl
  · have nd := sc__law_some_letters.nd
    have hu := hu_of hr
    have hu64 := hu64_of hr
    have c__law_frame := ok__law_frame (P := P) (w := w) (base := base) T
    have c__law_pick := ok__law_pick (P := P) (w := w) (base := base) T
    have c__law_some_saying := ok__law_some_saying (P := P) (w := w) (base := base) T
    have c__law_draw := ok__law_draw (P := P) (w := w) (base := base) T
    obtain ⟨x0, x1, x2, x3, rfl, h⟩ := h
    refine ⟨_, (pss_cons (ps_par (i := 4) (j := 5) rfl nd rfl rfl (by decide) rfl rfl (pa_cons pe_dnewK (pa_cons (pe_lst pa_nil) pa_nil)) (by rfl)) (pss_cons (ps_set (i := 6) nd rfl (Or.inl rfl) (pe_callO c__law_frame (hr.mono (by first | decide | omega)) (pa_cons (pv 0) (pa_cons (pv 2) pa_nil)))) (pss_cons (ps_for PassesOwn.never rfl (pi_range1 (by rfl) T.b_range (pa_cons (pv 3) pa_nil)) (pg_name (i := 7) nd rfl (Or.inl rfl)) (pss_one (ps_expr (pe_bm PySem.F.plainAttrs_list PySem.F.slot_list_append PySem.F.type_list_append mt_append (pv 6) (pa_cons (pe_tup (pa_cons (pe_callO c__law_pick (hr.mono (by first | decide | omega)) (pa_cons (pv 0) (pa_cons (pv 2) pa_nil))) (pa_cons (pe_callO c__law_some_saying (hr.mono (by first | decide | omega)) (pa_cons (pv 0) (pa_cons (pv 1) (pa_cons (pv 2) pa_nil)))) pa_nil))) pa_nil))))) (pss_cons (ps_for PassesOwn.never rfl (pi_list (pv 6)) (pg_tup rfl (pgs_cons (pg_name (i := 8) nd rfl (Or.inl rfl)) (pgs_cons (pg_name (i := 9) nd rfl (Or.inl rfl)) pgs_nil))) (pss_cut (ps_set (i := 10) nd rfl (Or.inl rfl) (pe_op op_add (pe_op op_add (pe_dget2 hu (pv 4) (pv 8) pe_int ⟨rfl, rfl, rfl, rfl⟩) pe_int) (pe_ifExp (truthK (K := K) (pe_callO c__law_draw (hr.mono (by first | decide | omega)) (pa_cons (pv 0) (pa_cons pe_int pa_nil)))) pe_int (pe_callO c__law_pick (hr.mono (by first | decide | omega)) (pa_cons (pv 0) (pa_cons (pe_lst (pa_cons pe_int (pa_cons pe_int (pa_cons pe_int (pa_cons (pe_op op_pow pe_int pe_int) pa_nil))))) pa_nil)))))) (pss_cut (ps_if (PW.pt (pw_and (pt_cmp (pc_din hu (pv 8) (pv 4))) (pw_and1 (pt_cmpR op_eq (pe_callO c__law_draw (hr.mono (by first | decide | omega)) (pa_cons (pv 0) (pa_cons pe_int pa_nil))) pe_int (nomark _))))) (pss_one (ps_set (i := 10) nd rfl (Or.inl rfl) (pe_op op_add pe_int (pe_callO c__law_draw (hr.mono (by first | decide | omega)) (pa_cons (pv 0) (pa_cons (pe_callB (call_min2 rfl) (by rfl) T.b_min boot_min (pa_cons (pe_dget hu (pv 4) (pv 8) (fun _ _ => rfl)) (pa_cons pe_int pa_nil))) pa_nil)))))) pss_nil) (pss_cons (ps_dput hu (pv 4) (pv 8) (pe_callB (call_max2 rfl) (by rfl) T.b_max boot_max (pa_cons (pv 10) (pa_cons (pe_dget2 hu (pv 4) (pv 8) pe_int ⟨rfl, rfl, rfl, rfl⟩) pa_nil))) rfl) (pss_one (ps_expr (pe_bm PySem.F.plainAttrs_list PySem.F.slot_list_append PySem.F.type_list_append mt_append (pv 5) (pa_cons (pe_tup (pa_cons (pv 8) (pa_cons (pv 10) (pa_cons (pv 9) pa_nil)))) pa_nil)))))))) (pss_one (ps_ret (pv 5))))))), ?_⟩
    obtain ⟨a, n, R, l, d, names, many, rfl, pa, hn, rfl, hR, nR, dok, rfl, el, nok, l3, l10, rfl, hm, q⟩ := h
    have z1001 : (1001 : Nat) ≤ sizeLine := by decide
    have z3 : 3 ≤ sizeLine := by decide
    refine fun L hL => ⟨by decide, fun c hc => ⟨_, _, rfl, ?_⟩⟩
    have s1 := (same_new (o := .dK []) hL).trans (same_new (o := .lst []) hc)
    have Lc : L ≠ c := fun z => by rw [← z, upd_same] at hc; cases hc
    have cH : H c = none := by
      rw [upd_ne Lc.symm] at hc
      exact hc
    have eL1 : (upd (upd H L (.dK [])) c (.lst [])) L = some (.dK []) := by rw [upd_ne Lc]; exact upd_same
    have ec1 : (upd (upd H L (.dK [])) c (.lst [])) c = some (.lst []) := upd_same
    generalize upd (upd H L (.dK [])) c (.lst []) = H1 at s1 eL1 ec1 ⊢
    have Lp := (pa.ne_new hL).1
    refine ⟨_, rfl, _, rfl, _, _, rfl, a, n, l, names, rfl, pa.same s1, by omega, rfl, s1 _ _ el, nok, l3, l10, fun H2 n2 S ps b2 pa2 hn2 hS lp hp lps => ?_⟩
    have b02 : But1 a.p H H2 := (but_same s1).trans b2
    have eL2 := b2 _ _ eL1 Lp
    have ec2 := (pa.same s1).lst b2 ec1
    have Sc : S ≠ c := fun z => by rw [z, ec1] at hS; cases hS
    have SH := same_free s1 hS
    refine ⟨_, rfl, many, rfl, by omega, by omega, for_it walk_range (fun i σ H3 => ∃ (v7 : Option V) (n3 : Nat) (ps : List (Str × Say)), σ = [some (.ref a.p), some (.ref R), some (.ref l), some (.int many), some (.ref L), some (.ref c), some (.ref S), v7, none, none, none] ∧ But1 a.p H H3 ∧ PenAt H3 a n3 ∧ n3 ≤ n2 + 7 * i ∧ H3 L = some (.dK []) ∧ H3 c = some (.lst []) ∧ LstAt H3 S psDt ps ∧ ps.length ≤ 30 + i ∧ ∀ p ∈ ps, PsOk names p)
      ⟨_, n2, ps, rfl, b02, pa2, by omega, eL2, ec2, lp, by omega, hp⟩ (fun _ _ _ _ _ => trivial) ?_ ?_⟩
    · rintro i x σ H3 H4 hi ⟨v7, n3, ps, rfl, b3, pa3, hn3, eL3, ec3, lp3, hl3, hp3⟩ ⟨rfl, rfl⟩
      obtain ⟨xs3, ex3, _⟩ := id lp3
      have SL : S ≠ L := fun z => by rw [z, eL3] at ex3; cases ex3
      refine ⟨_, rfl, .inl ⟨rfl, _, SqL.of ex3⟩, _, rfl, _, rfl, pick_strs pa3 (by omega) (pa.lst b3 el) (by omega) (by omega) fun H5 z5 b5 pa5 hz5 => ?_⟩
      have b05 := b3.trans b5
      refine ⟨_, rfl, _, rfl, _, rfl, _, _, _, rfl, a, n3 + 1, R, l, d, names, rfl, pa5, by omega, rfl, hR.but b05 nR (pa.tk b05), nR, dok, rfl, pa.lst b05 el, nok, l3, l10, fun H6 n6 s y b6 pa6 hn6 ts hs => ⟨by show 2 ≤ sizeLine; decide, fun t ht => ?_⟩⟩
      have s7 := same_new (o := .tup [.str z5, y]) ht
      have bA := (b5.trans b6).trans (but_same s7)
      obtain ⟨xs, ex, lx, lp2, _⟩ := (lp3.pen pa3 bA).snoc (f := psDt) (x := (z5, s)) (y := .ref t) ⟨t, _, rfl, upd_same, rfl, ts.keep (tk_same s7), trivial⟩
      refine ⟨S, _, _, rfl, rfl, ex, by omega, _, n6, _, rfl, (b3.trans bA).upd_free SH, pa.upd (pa6.same s7) SH, by omega, by rw [upd_ne SL.symm]; exact bA _ _ eL3 Lp, by rw [upd_ne Sc.symm]; exact pa3.lst bA ec3, lp2, by simp; omega, fun p hp2 => ?_⟩
      rcases List.mem_append.mp hp2 with hp2 | hp2
      · exact hp3 p hp2
      · obtain rfl := List.mem_singleton.mp hp2
        exact ⟨hz5, hs⟩
    · rintro σ H3 ⟨v7, n3, ps, rfl, b3, pa3, hn3, eL3, ec3, lp3, hl3, hp3⟩
      obtain ⟨xs3, ex3, tv3⟩ := id lp3
      have lx3 : xs3.length = ps.length := by rw [← tv3.length, List.length_map]
      have SL : S ≠ L := fun z => by rw [z, eL3] at ex3; cases ex3
      refine ⟨_, rfl, S, rfl, ⟨_, SqL.of ex3⟩, for_it walk_list (fun i σ H4 => ∃ (v8 v9 v10 : Option V) (n4 : Nat) (kvs : List (Key × V)) (rs : List LR), σ = [some (.ref a.p), some (.ref R), some (.ref l), some (.int many), some (.ref L), some (.ref c), some (.ref S), v7, v8, v9, v10] ∧ But1 a.p H H4 ∧ Tk H3 H4 ∧ PenAt H4 a n4 ∧ n4 ≤ n3 + 4 * i ∧ H4 S = some (.lst xs3) ∧ H4 L = some (.dK kvs) ∧ kvs.length ≤ i ∧ LastOk (i * (10 ^ 20 + 1)) kvs ∧ LstAt H4 c lrDt rs ∧ rs.length = i ∧ ∀ x ∈ rs, LrOk names x)
        ⟨_, _, _, n3, [], [], rfl, b3, Tk.refl, pa3, by omega, ex3, eL3, Nat.le_refl _, fun k v h => (by cases h), ⟨_, ec3, trivial⟩, rfl, by simp⟩ (fun i σ H4 _ ⟨_, _, _, _, _, _, _, _, _, _, _, e, _⟩ => SqL.of e) ?_ ?_⟩
      · rintro i x σ H4 H5 hi ⟨v8, v9, v10, n4, kvs, rs, rfl, b4, k4, pa4, hn4, eS4, eL4, lk4, hk4, lr4, hr4, hok4⟩ ⟨rfl, hx⟩
        obtain ⟨p, hp, tx⟩ := TvAll.mapGet (tv3.keep k4) hx
        obtain ⟨T1, xs, rfl, eT, tvp⟩ := tx
        obtain ⟨y, rfl, ty⟩ : ∃ y, xs = [.str p.1, y] ∧ Tv H5 p.2.dt y := by
          match xs, tvp with
          | [x1, x2], ⟨h1, h2, _⟩ => exact ⟨x2, by rw [show x1 = .str p.1 from h1], h2⟩
        have pok := hp3 p (List.mem_of_getElem? hp)
        obtain ⟨j, hj, j0, j1⟩ : ∃ j : Int, (valV kvs (Sum.inr p.1 : Key)).getD (V.int 0) = .int j ∧ 0 ≤ j ∧ j ≤ i * (10 ^ 20 + 1) := by
          cases e : valV kvs (Sum.inr p.1 : Key) with
          | none => exact ⟨0, rfl, by omega, by omega⟩
          | some v =>
            obtain ⟨j, rfl, h1, h2⟩ := hk4 _ _ e
            exact ⟨j, rfl, by omega, h2⟩
        refine ⟨T1, _, rfl, SqT.of eT, rfl, _, _, rfl, _, _, rfl, rfl, ?_⟩
        refine ⟨fun σ' H6 => ∃ (num : Int) (n6 : Nat), σ' = [some (.ref a.p), some (.ref R), some (.ref l), some (.int many), some (.ref L), some (.ref c), some (.ref S), v7, some (.str p.1), some y, some (.int num)] ∧ But1 a.p H5 H6 ∧ PenAt H6 a n6 ∧ n6 ≤ n4 + 2 ∧ 1 ≤ num ∧ num ≤ (i + 1 : Nat) * (10 ^ 20 + 1), ?_, ?_⟩
        · refine ⟨_, rfl, L, rfl, .inl ⟨_, .inl eL4⟩, _, rfl, _, DGet.k (k := Sum.inr p.1) eL4, j, 1, hj, rfl, _, rfl, _, _, rfl, _, _, _, rfl, pa4, by omega, rfl, by omega, by omega, fun H6 k6 b6 pa6 k60 k61 => ⟨_, rfl, iteB (fun _ => ?_) (fun _ => ?_)⟩⟩
          · exact ⟨_, _, rfl, rfl, _, n4 + 1, rfl, b6, pa6, by omega, by omega, by omega⟩
          · refine ⟨_, rfl, _, _, rfl, rfl, ⟨by decide, by decide, by decide⟩, by show 4 ≤ sizeLine; decide, fun l7 hl7 => pick_ints (ns := [1, 8, 90, 10 ^ (20 : Int).toNat]) pa6 (by omega) hl7 (by decide) (by decide) fun H7 k7 b7 pa7 hk7 => ?_⟩
            have hk7 : 1 ≤ k7 ∧ k7 ≤ 10 ^ 20 := by
              have e : (10 : Int) ^ (20 : Int).toNat = 10 ^ 20 := by decide
              rw [e] at hk7
              simp at hk7
              omega
            exact ⟨_, _, rfl, rfl, _, n4 + 2, rfl, b6.trans b7, pa7, by omega, by omega, by omega⟩
        · rintro σ' H6 ⟨num, n6, rfl, b6, pa6, hn6, h1, h2⟩
          have eL6 := b6 _ _ eL4 Lp
          have S6 := pa4.lst b6 eS4
          refine ⟨fun σ' H7 => ∃ (num : Int) (n7 : Nat), σ' = [some (.ref a.p), some (.ref R), some (.ref l), some (.int many), some (.ref L), some (.ref c), some (.ref S), v7, some (.str p.1), some y, some (.int num)] ∧ But1 a.p H5 H7 ∧ PenAt H7 a n7 ∧ n7 ≤ n4 + 4 ∧ 1 ≤ num ∧ num ≤ (i + 1 : Nat) * (10 ^ 20 + 1), ?_, ?_⟩
          · refine ⟨_, rfl, _, rfl, L, _, rfl, DGet.k (k := Sum.inr p.1) eL6, _, rfl, iteB (fun hin => ?_) (fun _ => ⟨num, n6, rfl, b6, pa6, by omega, h1, h2⟩)⟩
            obtain ⟨j2, hj2, j20⟩ : ∃ j2 : Int, valV kvs (Sum.inr p.1 : Key) = some (.int j2) ∧ 1 ≤ j2 := by
              cases e : valV kvs (Sum.inr p.1 : Key) with
              | none =>
                rw [e] at hin
                cases hin
              | some v =>
                obtain ⟨j, rfl, h1, h2⟩ := hk4 _ _ e
                exact ⟨j, rfl, h1⟩
            refine ⟨_, rfl, _, _, rfl, _, _, _, rfl, pa6, by omega, rfl, by omega, by omega, fun H7 k7 b7 pa7 k70 k71 => ⟨rfl, _, rfl, iteB (fun _ => ?_) (fun _ => ⟨num, n6 + 1, rfl, b6.trans b7, pa7, by omega, h1, h2⟩)⟩⟩
            have eL7 := b7 _ _ eL6 Lp
            refine ⟨_, rfl, _, rfl, _, rfl, L, _, rfl, hj2 ▸ DGet.k (k := Sum.inr p.1) eL7, j2, 9, rfl, _, _, rfl, a, n6 + 1, _, rfl, pa7, by omega, rfl, by split <;> omega, by split <;> omega, fun H8 k8 b8 pa8 k80 k81 => ⟨_, _, rfl, rfl, _, n6 + 2, rfl, (b6.trans b7).trans b8, pa8, by omega, by omega, ?_⟩⟩
            have : k8 < 9 + 1 := by
              revert k81
              split <;> omega
            omega
          · rintro σ' H7 ⟨num, n7, rfl, b7, pa7, hn7, h1, h2⟩
            have eL7 := b7 _ _ eL4 Lp
            obtain ⟨xc, exc, _⟩ := id (lr4.pen pa4 b7)
            have lik : kvs.length < sizeLine := by omega
            refine ⟨_, rfl, _, rfl, L, rfl, .inl ⟨_, .inl eL7⟩, _, rfl, _, DGet.k (k := Sum.inr p.1) eL7, num, j, by rw [hj], _, rfl, _, rfl, L, _, rfl, DPut.k (k := Sum.inr p.1) eL7 lik, ?_⟩
            have mx : (if j > num then j else num) = max num j := by
              by_cases h : j > num
              · rw [if_pos h]; omega
              · rw [if_neg h]; omega
            have e8 : (upd H7 L (.dK (putK kvs (Sum.inr p.1) (.int (if j > num then j else num))))) L = some (.dK (putK kvs (Sum.inr p.1) (.int (if j > num then j else num)))) := upd_same
            have b8 : But1 a.p H (upd H7 L (.dK (putK kvs (Sum.inr p.1) (.int (if j > num then j else num))))) := (b4.trans b7).upd_free hL
            have k8 : Tk H5 (upd H7 L (.dK (putK kvs (Sum.inr p.1) (.int (if j > num then j else num))))) := (pa4.tk b7).trans (tk_mut eL7 (by intro _ z; cases z))
            have pa8 := pa.upd pa7 hL (o := .dK (putK kvs (Sum.inr p.1) (.int (if j > num then j else num))))
            have exc8 : ∀ {x : Addr} {xs : List V}, H5 x = some (.lst xs) → (upd H7 L (.dK (putK kvs (Sum.inr p.1) (.int (if j > num then j else num))))) x = some (.lst xs) := fun e => by
              rw [upd_ne fun z => by rw [z, eL4] at e; cases e]
              exact pa4.lst b7 e
            generalize upd H7 L (.dK (putK kvs (Sum.inr p.1) (.int (if j > num then j else num)))) = H8 at e8 b8 k8 pa8 exc8 ⊢
            have lp8 : LstAt H8 c lrDt rs := lr4.keep k8 fun xs e => exc8 e
            obtain ⟨xs8, ex8, lx8⟩ := id lp8
            refine ⟨_, rfl, .inl ⟨rfl, _, SqL.of ex8⟩, _, rfl, _, rfl, _, rfl, z3, fun t ht => ?_⟩
            have s9 := same_new (o := .tup [.str p.1, .int num, y]) ht
            obtain ⟨xs, ex, lx, lp9, k9⟩ := (lp8.same s9).snoc (f := lrDt) (x := (p.1, num, p.2)) (y := .ref t) ⟨t, _, rfl, upd_same, rfl, rfl, ty.keep (k8.trans (tk_same s9)), trivial⟩
            have cS : S ≠ c := Sc
            have cL : L ≠ c := Lc
            refine ⟨c, _, _, rfl, rfl, ex, by omega, _, _, _, n7, _, _, rfl, (b8.trans (but_same s9)).upd_free cH, k4.trans (k8.trans ((tk_same s9).trans k9)), pa.upd (pa8.same s9) cH, by omega, by rw [upd_ne cS]; exact s9 _ _ (exc8 eS4), by rw [upd_ne cL]; exact s9 _ _ e8, Nat.le_trans (length_putK _ _ _) (by omega), fun k v hkv => ?_, lp9, by simp [hr4], fun x hx2 => ?_⟩
            · by_cases ek : k = Sum.inr p.1
              · subst ek
                rw [valV_put, if_pos rfl] at hkv
                cases hkv
                exact ⟨_, rfl, by rw [mx]; omega, by rw [mx]; omega⟩
              · rw [valV_put, if_neg ek] at hkv
                obtain ⟨j3, rfl, q1, q2⟩ := hk4 _ _ hkv
                exact ⟨j3, rfl, q1, by omega⟩
            · rcases List.mem_append.mp hx2 with hx2 | hx2
              · exact hok4 x hx2
              · obtain rfl := List.mem_singleton.mp hx2
                exact ⟨pok.1, h1, by show num ≤ 10 ^ 24; omega, pok.2⟩
      · rintro σ H4 ⟨v8, v9, v10, n4, kvs, rs, rfl, b4, k4, pa4, hn4, eS4, eL4, lk4, hk4, lr4, hr4, hok4⟩
        exact ⟨_, rfl, q _ n4 c rs b4 pa4 (by omega) cH lr4 hok4 (by omega)⟩
end
end Lv
set_option maxHeartbeats 4000000
namespace Lv
open PySem PySem.Spec PyProof.Rows L2
theorem ins_upd {H : Hp} {D : Addr} {l : List V} {u : HO} (e : H D = some (.lst l)) : ∀ b o, H b = some o → (∃ C dx fs, o = .ins C dx fs) → upd H D u b = some o := fun b o eb ⟨C, dx, fs, ei⟩ => by
  rw [upd_ne fun z => by rw [z, e] at eb; rw [ei] at eb; cases eb]
  exact eb
theorem mem_app_of {α : Type} {P : α → Prop} {l : List α} {x : α} (h : ∀ e ∈ l, P e) (hx : P x) : ∀ e ∈ l ++ [x], P e := fun e he => by
  rcases List.mem_append.mp he with he | he
  · exact h e he
  · rw [List.mem_singleton.mp he]
    exact hx
def STab (K : PySem.W.Frag) : Addr → Prop := fun b => b = tabA K "are_founders" ∨ b = tabA K "are_rules" ∨ b = tabA K "are_threads"
def Tab3 (K : PySem.W.Frag) (H : Hp) : Prop := TabH K "are_founders" H ∧ TabH K "are_rules" H ∧ TabH K "are_threads" H
theorem same_two {H : Hp} {x dx C : Addr} {o : HO} (hx : H x = none) (hd : H dx = none) : Same H (upd (upd H dx o) x (.ins C dx [])) := fun a u e => by
  rw [upd_ne (ne_of_none e hx), upd_ne (ne_of_none e hd)]
  exact e
theorem sum_le6 {l : List FRow} (h : ∀ e ∈ l, e.g ≤ 6) : (l.map (·.g)).sum ≤ 6 * l.length := by
  induction l with
  | nil => simp
  | cons e l ih =>
    have h1 := h e List.mem_cons_self
    have h2 := ih fun x hx => h x (List.mem_cons_of_mem _ hx)
    rw [List.map_cons, List.sum_cons, List.length_cons]
    omega
def ruleT (e : RRow) : Str × Str × Int × Int := (e.w, e.k, e.n, e.r)
def founderT (e : FRow) : Str × Int × Int := (e.n, e.g, e.r)
section
variable {P : Program} {w : World} {K : PySem.W.Frag} {mg : Str → Option Value} {base : Heap}
def sp_law_made_forum (K : PySem.W.Frag) : Sp := sp1 fun v H Q => ∃ (R : Addr) (d : RowsD) (names : List Str), v = .ref R ∧ RowsAt H R d ∧ d.Ok names ∧ NamesOk names ∧ Tab3 K H ∧
  ∀ (H' : Hp) (f : ForumA), But (STab K) H H' → f.At K H' → f.fl.length ≤ 2 → (∀ e ∈ f.fl, e.n ∈ names) → Q (.ref f.x) H'
abbrev N__law_made_forum : List Str := ["rows", "ladder", "founders", "rules", "name", "gift", "rank", "word", "kind", "needs", "readers"]
theorem sc__law_made_forum : FnScope N__law_made_forum ["rows"] (defScope s__law_made_forum) := ⟨rfl, rfl, rfl, by decide +kernel, rfl, by decide +kernel, by decide +kernel⟩
theorem ok__law_made_forum (T : Txt K mg) (TBs : TabsOk K mg base) : CallOk P w K mg base 12 "_law_made_forum" ["rows"] [] (sp_law_made_forum K) := by
  refine call_ok T 81 T.g__law_made_forum sc__law_made_forum (fun vs H Q E h => ?_) (fun f cdv A outer s H vs Q E hr h => ?_) (fun _ _ _ _ _ _ us hl => match us, hl with | [_], _ => rfl)
  · obtain ⟨x0, rfl, _⟩ := h
    rfl
  · have nd := sc__law_made_forum.nd
    have hu := hu_of hr
    have hu64 := hu64_of hr
    have c_Ladder := ok_Ladder_init (P:=P) (w:=w) (base:=base) T
    have c_Founder := ok_Founder_init (P:=P) (w:=w) (base:=base) T
    have c_Rule := ok_Rule_init (P:=P) (w:=w) (base:=base) T
    have c_Thread := ok_Thread_init (P:=P) (w:=w) (base:=base) T
    have c_Forum := ok_Forum_init (P:=P) (w:=w) (base:=base) T TBs
    obtain ⟨x0, rfl, h⟩ := h
    refine ⟨_, (pss_cons (ps_set (i := 1) nd rfl (Or.inl rfl) (pe_makeO c_Ladder (hr.mono (by first | decide | omega)) (pa_cons (pe_dget hu (pv 0) pe_str (fun _ _ => rfl)) (pa_cons (pe_dget hu (pv 0) pe_str (fun _ _ => rfl)) pa_nil)))) (pss_cons (ps_set (i := 2) nd rfl (Or.inl rfl) (pe_callTy (tupleOfK (K := K)) (by rfl) T.b_tuple boot_tuple (pa_cons (pe_lc (own := [("name", 4), ("gift", 5), ("rank", 6)]) (g := (gTup K 3 (gCons (gName 4) (gCons (gName 5) (gCons (gName 6) gNil))))) (tt := tYes) rfl nd (pi_tup (pe_dget hu (pv 0) pe_str (fun _ _ => rfl))) (blkOk_by (own := [("name", 4), ("gift", 5), ("rank", 6)]) (N := N__law_made_forum) (sc := defScope s__law_made_forum) (by decide +kernel)) (fun _ _ _ _ _ => (pg_tup rfl (pgs_cons (pg_name (i := 4) nd rfl (Or.inl rfl)) (pgs_cons (pg_name (i := 5) nd rfl (Or.inl rfl)) (pgs_cons (pg_name (i := 6) nd rfl (Or.inl rfl)) pgs_nil))))) (fun _ _ _ _ _ => pts_nil) (fun _ _ _ _ _ => (pe_makeO c_Founder (hr.mono (by first | decide | omega)) (pa_cons (pv 4) (pa_cons (pv 5) (pa_cons (pv 6) pa_nil)))))) pa_nil))) (pss_cons (ps_set (i := 3) nd rfl (Or.inl rfl) (pe_callTy (tupleOfK (K := K)) (by rfl) T.b_tuple boot_tuple (pa_cons (pe_lc (own := [("word", 7), ("kind", 8), ("needs", 9), ("rank", 6)]) (g := (gTup K 4 (gCons (gName 7) (gCons (gName 8) (gCons (gName 9) (gCons (gName 6) gNil)))))) (tt := tYes) rfl nd (pi_tup (pe_dget hu (pv 0) pe_str (fun _ _ => rfl))) (blkOk_by (own := [("word", 7), ("kind", 8), ("needs", 9), ("rank", 6)]) (N := N__law_made_forum) (sc := defScope s__law_made_forum) (by decide +kernel)) (fun _ _ _ _ _ => (pg_tup rfl (pgs_cons (pg_name (i := 7) nd rfl (Or.inl rfl)) (pgs_cons (pg_name (i := 8) nd rfl (Or.inl rfl)) (pgs_cons (pg_name (i := 9) nd rfl (Or.inl rfl)) (pgs_cons (pg_name (i := 6) nd rfl (Or.inl rfl)) pgs_nil)))))) (fun _ _ _ _ _ => pts_nil) (fun _ _ _ _ _ => (pe_makeO c_Rule (hr.mono (by first | decide | omega)) (pa_cons (pv 7) (pa_cons (pv 8) (pa_cons (pv 9) (pa_cons (pv 6) pa_nil))))))) pa_nil))) (pss_one (ps_ret (pe_makeO c_Forum (hr.mono (by first | decide | omega)) (pa_cons (pv 1) (pa_cons (pv 2) (pa_cons (pv 3) (pa_cons (pe_callTy (tupleOfK (K := K)) (by rfl) T.b_tuple boot_tuple (pa_cons (pe_lc (own := [("name", 4), ("readers", 10)]) (g := (gTup K 2 (gCons (gName 4) (gCons (gName 10) gNil)))) (tt := tYes) rfl nd (pi_tup (pe_dget hu (pv 0) pe_str (fun _ _ => rfl))) (blkOk_by (own := [("name", 4), ("readers", 10)]) (N := N__law_made_forum) (sc := defScope s__law_made_forum) (by decide +kernel)) (fun _ _ _ _ _ => (pg_tup rfl (pgs_cons (pg_name (i := 4) nd rfl (Or.inl rfl)) (pgs_cons (pg_name (i := 10) nd rfl (Or.inl rfl)) pgs_nil)))) (fun _ _ _ _ _ => pts_nil) (fun _ _ _ _ _ => (pe_makeO c_Thread (hr.mono (by first | decide | omega)) (pa_cons (pv 4) (pa_cons (pv 10) pa_nil))))) pa_nil)) pa_nil)))))))))), ?_⟩
    obtain ⟨R, d, names, rfl, ⟨v0, v1, v2, v3, v4, eR, tv0, tv1, tv2, tv3, tv4⟩, dok, nok, ⟨tb1, tb2, tb3⟩, q⟩ := h
    have z1001 : (1001 : Nat) ≤ sizeLine := by decide
    have g0 : ∀ {H : Hp}, H R = some (.dK (dd_rows v0 v1 v2 v3 v4)) → DGet H R (kV (Sum.inr "lends")) (some v0) := fun e => dd_rows_lends .. ▸ DGet.k (k := Sum.inr "lends") e
    have g1 : ∀ {H : Hp}, H R = some (.dK (dd_rows v0 v1 v2 v3 v4)) → DGet H R (kV (Sum.inr "needs")) (some v1) := fun e => dd_rows_needs .. ▸ DGet.k (k := Sum.inr "needs") e
    have g2 : ∀ {H : Hp}, H R = some (.dK (dd_rows v0 v1 v2 v3 v4)) → DGet H R (kV (Sum.inr "founders")) (some v2) := fun e => dd_rows_founders .. ▸ DGet.k (k := Sum.inr "founders") e
    have g3 : ∀ {H : Hp}, H R = some (.dK (dd_rows v0 v1 v2 v3 v4)) → DGet H R (kV (Sum.inr "rules")) (some v3) := fun e => dd_rows_rules .. ▸ DGet.k (k := Sum.inr "rules") e
    have g4 : ∀ {H : Hp}, H R = some (.dK (dd_rows v0 v1 v2 v3 v4)) → DGet H R (kV (Sum.inr "threads")) (some v4) := fun e => dd_rows_threads .. ▸ DGet.k (k := Sum.inr "threads") e
    obtain ⟨a0, x0, rfl, _⟩ := id tv0
    obtain ⟨a1, x1, rfl, _⟩ := id tv1
    obtain ⟨a2, x2, rfl, e2, ta2⟩ := id tv2
    obtain ⟨a3, x3, rfl, e3, ta3⟩ := id tv3
    obtain ⟨a4, x4, rfl, e4, ta4⟩ := id tv4
    refine ⟨_, rfl, R, _, rfl, g0 eR, _, rfl, R, _, rfl, g1 eR, fun x dx hx hdx hne => ?_⟩
    have s1 := same_two (o := .own x) (C := He.ga K "Ladder") hx hdx
    refine ⟨_, _, _, rfl, x, dx, a0, d.ns, a1, d.ps, rfl, upd_same, rfl, tv0.keep (tk_same s1), dok.l, rfl, tv1.keep (tk_same s1), dok.n, fun H1 b1 hl1 => ⟨rfl, ?_⟩⟩
    have s01 : Same H H1 := same_made hx hdx b1
    refine ⟨_, rfl, R, _, rfl, g2 (s01 _ _ eR), a2, rfl, ⟨_, SqT.of (s01 _ _ e2)⟩, fun D hD => lc_rel walk_tup (fun i l H' => ∃ fl : List FRow, l = fl.map (fun e => V.ref e.a) ∧ fl.map founderT = d.fs.take i ∧ ∀ e ∈ fl, FRow.At K H' e) hD (fun H' s => SqT.of (s _ _ (s01 _ _ e2))) ⟨[], rfl, rfl, by simp⟩ ?_ ?_⟩
    · rintro i y l H3 H4 hi hl s e5 ⟨fl, rfl, mf, hf⟩ ⟨rfl, hy⟩
      obtain ⟨p, hp, ty⟩ := TvAll.mapGet (ta2.keep (tk_same (s01.trans s))) hy
      obtain ⟨t, xs, rfl, et, tvp⟩ := ty
      obtain rfl : xs = [.str p.1, .int p.2.1, .int p.2.2] := by
        match xs, tvp with
        | [y1, y2, y3], ⟨h1, h2, h3, _⟩ => rw [show y1 = .str p.1 from h1, show y2 = .int p.2.1 from h2, show y3 = .int p.2.2 from h3]
      obtain ⟨m1, m2, m3, m4, m5⟩ := dok.f3 p (List.mem_of_getElem? hp)
      have lns := dok.l.2.1
      have lx : x2.length ≤ 2 := by
        have := ta2.length
        rw [List.length_map] at this
        have := dok.f1
        omega
      refine ⟨t, _, rfl, SqT.of et, rfl, _, _, rfl, _, _, rfl, _, _, rfl, rfl, rfl, _, rfl, _, rfl, _, rfl, fun y dy hy1 hy2 hy3 => ?_⟩
      refine ⟨_, _, _, _, rfl, y, dy, p.1, p.2.1, p.2.2, rfl, upd_same, rfl, nok.ok _ m1, rfl, m2, by omega, rfl, m4, by omega, fun H5 b5 h5 => ⟨rfl, ?_⟩⟩
      have s5 : Same H4 H5 := same_made hy1 hy2 b5
      refine lc_take hD (by omega) hl (s.trans s5) (s5 _ _ e5) ⟨fl ++ [⟨y, p.1, p.2.1, p.2.2⟩], by simp, ?_, ?_⟩
      · rw [take_snoc hp, List.map_append, mf]
        rfl
      · exact mem_app_of (fun e he => FRow.keep (ins_upd (s5 _ _ e5)) (FRow.keep (fun b o z _ => s5 b o z) (hf e he))) (FRow.keep (e := ⟨y, p.1, p.2.1, p.2.2⟩) (ins_upd (s5 _ _ e5)) h5)
    rintro l H2 hl2 s2 eD2 ⟨fl, rfl, mf, hf⟩
    have lfs : x2.length = d.fs.length := by rw [← ta2.length, List.length_map]
    rw [lfs, List.take_length] at mf
    refine ⟨D, _, rfl, .inl ⟨SqL.of eD2, fun tf htf => ?_⟩⟩
    have s3 := same_new (o := .tup (fl.map fun e => V.ref e.a)) htf
    have etf : (upd H2 tf (.tup (fl.map fun e => V.ref e.a))) tf = some (.tup (fl.map fun e => V.ref e.a)) := upd_same
    generalize upd H2 tf (.tup (fl.map fun e => V.ref e.a)) = H3 at s3 etf ⊢
    have s03 := s01.trans (s2.trans s3)
    have hf3 : ∀ e ∈ fl, FRow.At K H3 e := fun e he => FRow.keep (fun b o z _ => s3 b o z) (hf e he)
    refine ⟨_, rfl, R, _, rfl, g3 (s03 _ _ eR), a3, rfl, ⟨_, SqT.of (s03 _ _ e3)⟩, fun D2 hD2 => lc_rel walk_tup (fun i l H' => ∃ rl : List RRow, l = rl.map (fun e => V.ref e.a) ∧ rl.map ruleT = d.rs.take i ∧ ∀ e ∈ rl, RRow.At K H' e) hD2 (fun H' s => SqT.of (s _ _ (s03 _ _ e3))) ⟨[], rfl, rfl, by simp⟩ ?_ ?_⟩
    · rintro i y l H4 H5 hi hl s e5 ⟨rl, rfl, mr, hr'⟩ ⟨rfl, hy⟩
      obtain ⟨p, hp, ty⟩ := TvAll.mapGet (ta3.keep (tk_same (s03.trans s))) hy
      obtain ⟨t, xs, rfl, et, tvp⟩ := ty
      obtain rfl : xs = [.str p.1, .str p.2.1, .int p.2.2.1, .int p.2.2.2] := by
        match xs, tvp with
        | [y1, y2, y3, y4], ⟨h1, h2, h3, h4, _⟩ => rw [show y1 = .str p.1 from h1, show y2 = .str p.2.1 from h2, show y3 = .int p.2.2.1 from h3, show y4 = .int p.2.2.2 from h4]
      obtain ⟨m1, m2, m3, m4, m5⟩ := dok.r3 p (List.mem_of_getElem? hp)
      have hw : nameOk p.1 = true := by
        have hm : p.1 ∈ d.rs.map (·.1) := List.mem_map_of_mem (List.mem_of_getElem? hp)
        have hm := dok.r1.mem_iff.mp hm
        simp only [List.mem_cons, List.not_mem_nil, or_false] at hm
        rcases hm with h | h | h <;> rw [h]
        · exact wk_words.1
        · exact wk_words.2.1
        · exact wk_words.2.2
      have lns := dok.l.2.1
      have lx : x3.length = 3 := by
        have := ta3.length
        rw [List.length_map] at this
        have := dok.r1.length_eq
        simp at this
        omega
      refine ⟨t, _, rfl, SqT.of et, rfl, _, _, rfl, _, _, rfl, _, _, rfl, _, _, rfl, rfl, rfl, _, rfl, _, rfl, _, rfl, _, rfl, fun y dy hy1 hy2 hy3 => ?_⟩
      refine ⟨_, _, _, _, _, rfl, y, dy, p.1, p.2.1, p.2.2.1, p.2.2.2, rfl, upd_same, rfl, hw, rfl, m1, rfl, m2, by omega, rfl, m4, by omega, fun H6 b6 h6 => ⟨rfl, ?_⟩⟩
      have s6 : Same H5 H6 := same_made hy1 hy2 b6
      refine lc_take hD2 (by omega) hl (s.trans s6) (s6 _ _ e5) ⟨rl ++ [⟨y, p.1, p.2.1, p.2.2.1, p.2.2.2⟩], by simp, ?_, ?_⟩
      · rw [take_snoc hp, List.map_append, mr]
        rfl
      · refine mem_app_of (fun e he => RRow.keep (ins_upd (s6 _ _ e5)) (RRow.keep (fun b o z _ => s6 b o z) (hr' e he))) (RRow.keep (e := ⟨y, p.1, p.2.1, p.2.2.1, p.2.2.2⟩) (ins_upd (s6 _ _ e5)) ?_)
        obtain ⟨dx', o'⟩ := h6
        exact ⟨dx', (), o'⟩
    rintro l H4 hl4 s4 eD4 ⟨rl, rfl, mr, hr'⟩
    have lrs : x3.length = d.rs.length := by rw [← ta3.length, List.length_map]
    rw [lrs, List.take_length] at mr
    refine ⟨D2, _, rfl, .inl ⟨SqL.of eD4, fun tr htr => ?_⟩⟩
    have s5 := same_new (o := .tup (rl.map fun e => V.ref e.a)) htr
    have etr : (upd H4 tr (.tup (rl.map fun e => V.ref e.a))) tr = some (.tup (rl.map fun e => V.ref e.a)) := upd_same
    generalize upd H4 tr (.tup (rl.map fun e => V.ref e.a)) = H5 at s5 etr ⊢
    have s35 := s4.trans s5
    have s05 := s03.trans s35
    have hr5 : ∀ e ∈ rl, RRow.At K H5 e := fun e he => RRow.keep (fun b o z _ => s5 b o z) (hr' e he)
    refine ⟨_, rfl, _, rfl, _, rfl, _, rfl, R, _, rfl, g4 (s05 _ _ eR), a4, rfl, ⟨_, SqT.of (s05 _ _ e4)⟩, fun D3 hD3 => lc_rel walk_tup (fun i l H' => ∃ tl : List TRow, l = tl.map (fun e => V.ref e.a) ∧ tl.map (·.n) = ([("tea" : Str), "den"]).take i ∧ ∀ e ∈ tl, TRow.At K H' e) hD3 (fun H' s => SqT.of (s _ _ (s05 _ _ e4))) ⟨[], rfl, rfl, by simp⟩ ?_ ?_⟩
    · rintro i y l H6 H7 hi hl s e7 ⟨tl, rfl, mt, ht'⟩ ⟨rfl, hy⟩
      have tvs := ta4.keep (tk_same (s05.trans s))
      obtain ⟨pn, rd, t, rv, hp, rfl, et, trd, rok⟩ : ∃ (pn : Str) (rd : Option (List Str)) (t : Addr) (rv : V), ([("tea" : Str), "den"])[i]? = some pn ∧ y = .ref t ∧ H7 t = some (.tup [.str pn, rv]) ∧ Tv H7 (readersDt rd) rv ∧ readersOk rd := by
        match x4, tvs with
        | [y1, y2], ⟨⟨t1, z1, h1, k1, w1⟩, ⟨t2, z2, h2, k2, w2⟩, _⟩ =>
          match i, hy with
          | 0, hy =>
            cases hy
            match z1, w1 with
            | [u1, u2], ⟨g1, g2, _⟩ => exact ⟨"tea", none, t1, u2, rfl, h1, by rw [k1, show u1 = V.str "tea" from g1], g2, trivial⟩
          | 1, hy =>
            cases hy
            match z2, w2 with
            | [u1, u2], ⟨g1, g2, _⟩ => exact ⟨"den", some d.ys, t2, u2, rfl, h2, by rw [k2, show u1 = V.str "den" from g1], g2, dok.y⟩
      have hpn : nameOk pn = true := (by decide +kernel : ∀ z ∈ [("tea" : Str), "den"], nameOk z = true) pn (List.mem_of_getElem? hp)
      refine ⟨t, _, rfl, SqT.of et, rfl, _, _, rfl, _, _, rfl, rfl, rfl, _, rfl, _, rfl, fun y dy hy1 hy2 hy3 => ?_⟩
      have s8 := same_two (o := .own y) (C := He.ga K "Thread") hy1 hy2
      refine ⟨_, _, _, rfl, y, dy, pn, rd, rfl, upd_same, rfl, hpn, trd.keep (tk_same s8), rok, fun H8 b8 h8 => ⟨rfl, ?_⟩⟩
      have s9 : Same H7 H8 := same_made hy1 hy2 b8
      have lx : x4.length = 2 := ta4.length.symm
      refine lc_take hD3 (by omega) hl (s.trans s9) (s9 _ _ e7) ⟨tl ++ [⟨y, pn⟩], by simp, ?_, ?_⟩
      · rw [take_snoc hp, List.map_append, mt]
        rfl
      · exact mem_app_of (fun e he => TRow.keep (ins_upd (s9 _ _ e7)) (TRow.keep (fun b o z _ => s9 b o z) (ht' e he))) (TRow.keep (e := ⟨y, pn⟩) (ins_upd (s9 _ _ e7)) h8)
    rintro l H6 hl6 s6 eD6 ⟨tl, rfl, mt, ht'⟩
    have ltl : x4.length = 2 := ta4.length.symm
    rw [ltl] at mt
    refine ⟨D3, _, rfl, .inl ⟨SqL.of eD6, fun tt htt => fun y dy hy1 hy2 hy3 => ?_⟩⟩
    have s7 := same_new (o := .tup (tl.map fun e => V.ref e.a)) htt
    have ett : (upd H6 tt (.tup (tl.map fun e => V.ref e.a))) tt = some (.tup (tl.map fun e => V.ref e.a)) := upd_same
    generalize upd H6 tt (.tup (tl.map fun e => V.ref e.a)) = H7 at s7 ett hy1 hy2 ⊢
    have s8 := same_two (o := .own y) (C := He.ga K "Forum") hy1 hy2
    have s57 := s6.trans s7
    have s08 := (s05.trans s57).trans s8
    have keepI : ∀ b o, H7 b = some o → (∃ C dx fs, o = .ins C dx fs) → _ := fun b o z (_ : ∃ C dx fs, o = .ins C dx fs) => s8 b o z
    have lf : fl.length = d.fs.length := by
      have := congrArg List.length mf
      rwa [List.length_map] at this
    have f1 := dok.f1
    have fof : ∀ e ∈ fl, founderT e ∈ d.fs := fun e he => by
      rw [← mf]
      exact List.mem_map_of_mem he
    have rof : ∀ e ∈ rl, ruleT e ∈ d.rs := fun e he => by
      rw [← mr]
      exact List.mem_map_of_mem he
    have lr : rl.length = 3 := by
      have := congrArg List.length mr
      rw [List.length_map] at this
      have h2 := dok.r1.length_eq
      simp at h2
      omega
    have lt : tl.length = 2 := by
      have := congrArg List.length mt
      rw [List.length_map] at this
      exact this
    have n1 : (fl.map (·.n)).Nodup := by
      have e : fl.map (·.n) = d.fs.map (·.1) := by
        rw [← mf, List.map_map]
        rfl
      rw [e]
      exact dok.f2
    have n2 : (rl.map (·.w)).Nodup := by
      have e : rl.map (·.w) = d.rs.map (·.1) := by
        rw [← mr, List.map_map]
        rfl
      rw [e, dok.r1.nodup_iff]
      exact (by decide +kernel : ([("hide" : Str), "mute", "move"]).Nodup)
    have n3 : (tl.map (·.n)).Nodup := by
      rw [mt]
      exact (by decide +kernel : ([("tea" : Str), "den"]).Nodup)
    have g24 : (fl.map (·.g)).sum ≤ 24 := by
      have := sum_le6 (l := fl) fun e he => (dok.f3 _ (fof e he)).2.2.1
      omega
    refine ⟨_, _, _, _, _, rfl, y, dy, x, tf, tr, tt, d.ns, d.ps, fl, rl, tl, rfl, upd_same, rfl, (hl1.keep (fun b o z _ => (((s2.trans s3).trans s35).trans s57) b o z) (tk_same (((s2.trans s3).trans s35).trans s57))).keep keepI (tk_same s8), dok.l.1,
      rfl, s8 _ _ (s57 _ _ (s35 _ _ etf)), fun e he => FRow.keep keepI (FRow.keep (fun b o z _ => (s35.trans s57) b o z) (hf3 e he)), n1, by omega, by omega, g24, fun e he => (dok.f3 _ (fof e he)).2.2.2.2,
      rfl, s8 _ _ (s57 _ _ etr), fun e he => RRow.keep keepI (RRow.keep (fun b o z _ => s57 b o z) (hr5 e he)), n2, by omega, fun e he => (dok.r3 _ (rof e he)).2.2.2.2,
      rfl, s8 _ _ ett, fun e he => TRow.keep keepI (TRow.keep (fun b o z _ => s7 b o z) (ht' e he)), n3, by omega, tb1.ext s08, tb2.ext s08, tb3.ext s08, fun H9 f b9 ef el hf9 => ⟨rfl, ?_⟩⟩
    rw [← ef]
    refine q _ f (fun b o z n => ?_) hf9 (by rw [el]; omega) fun e he => ?_
    · refine b9 b o (s08 b o z) fun w => ?_
      rcases w with w | w
      · have := ne_of_none ((s05.trans s57) b o z) hy1
        exact this w
      · exact n w
    · rw [el] at he
      exact (dok.f3 _ (fof e he)).1
end
end Lv
set_option maxHeartbeats 4000000
namespace Lv
open PySem PySem.Spec PyProof.Rows L2
theorem TvAll.mem {H : Hp} {y : V} : ∀ {ds : List Dt} {vs : List V}, TvAll H ds vs → y ∈ vs → ∃ d ∈ ds, Tv H d y
  | [], [], _, h => by cases h
  | d :: ds, v :: vs, h, hy => by
    rcases List.mem_cons.mp hy with rfl | hy
    · exact ⟨d, List.mem_cons_self, h.1⟩
    · obtain ⟨e, he, t⟩ := TvAll.mem h.2 hy
      exact ⟨e, List.mem_cons_of_mem _ he, t⟩
  | [], _ :: _, h, _ => h.elim
  | _ :: _, [], h, _ => h.elim
def moreSays (o : Str) : List Say := [.post "p1" "tea" [.word "old", .see o "p1"], .take "p1", .block o true, .circle o 2, .post "p2" "den" []]
theorem more_names : nameOk "p1" = true ∧ nameOk "p2" = true ∧ nameOk "p9" = true ∧ nameOk "tea" = true ∧ nameOk "den" = true ∧ wordOk "old" = true := by decide +kernel
theorem more_ok {names : List Str} {o : Str} (ho : o ∈ names) (h : nameOk o = true) : ∀ s ∈ moreSays o, SayOk names s := by
  obtain ⟨n1, n2, n9, nt, nd, no⟩ := more_names
  intro s hs
  simp only [moreSays, List.mem_cons, List.not_mem_nil, or_false] at hs
  rcases hs with rfl | rfl | rfl | rfl | rfl
  · refine ⟨?_, fun x hx => by cases hx⟩
    show (nameOk "p1" && (nameOk "tea" && (decide (([.word "old", .see o "p1"] : List Piece).length ≤ 20) && ([.word "old", .see o "p1"] : List Piece).all Piece.ok))) = true
    simp [n1, nt, no, h, Piece.ok]
  · exact ⟨n1, fun x hx => by cases hx⟩
  · exact ⟨h, fun x hx => by cases hx⟩
  · refine ⟨?_, fun x hx => ?_⟩
    · show (nameOk o && decide ((0 : Int) ≤ 2 ∧ (2 : Int) ≤ 24)) = true
      rw [h]
      rfl
    · obtain rfl := List.mem_singleton.mp hx
      exact ho
  · refine ⟨?_, fun x hx => by cases hx⟩
    show (nameOk "p2" && (nameOk "den" && (decide (([] : List Piece).length ≤ 20) && ([] : List Piece).all Piece.ok))) = true
    simp [n2, nd]
section
variable {P : Program} {w : World} {K : PySem.W.Frag} {mg : Str → Option Value} {base : Heap}
def sp_law_more_letters : Sp := sp3 fun v x0 x1 H Q => ∃ (a : PenA) (n : Nat) (l : Addr) (names : List Str) (many : Nat), v = .ref a.p ∧ PenAt H a n ∧ n + 1000 ≤ 1000000 ∧ x0 = .ref l ∧ H l = some (.lst (names.map V.str)) ∧ NamesOk names ∧ 1 ≤ names.length ∧ names.length ≤ 10 ∧ x1 = .int many ∧ many ≤ 10 ∧
  ∀ (H' : Hp) (n' : Nat) (r : Addr) (rs : List LR), But1 a.p H H' → PenAt H' a n' → n' ≤ n + 50 → H r = none → LstAt H' r lrDt rs → (∀ x ∈ rs, LrOk names x) → rs.length ≤ many → Q (.ref r) H'
abbrev N__law_more_letters : List Str := ["pen", "names", "many", "found", "lap", "one", "other", "some"]
theorem sc__law_more_letters : FnScope N__law_more_letters ["pen", "names", "many"] (defScope s__law_more_letters) := ⟨rfl, rfl, rfl, by decide +kernel, rfl, by decide +kernel, by decide +kernel⟩
theorem ok__law_more_letters (T : Txt K mg) : CallOk P w K mg base 3 "_law_more_letters" ["pen", "names", "many"] [] sp_law_more_letters := by
  refine call_ok T 84 T.g__law_more_letters sc__law_more_letters (fun vs H Q E h => ?_) (fun f cdv A outer s H vs Q E hr h => ?_) (fun _ _ _ _ _ _ us hl => match us, hl with | [_, _, _], _ => rfl)
  · obtain ⟨x0, x1, x2, rfl, _⟩ := h
    rfl
  · have nd := sc__law_more_letters.nd
    have hu := hu_of hr
    have hu64 := hu64_of hr
    have c__law_pick := ok__law_pick (P := P) (w := w) (base := base) T
    have c__law_draw := ok__law_draw (P := P) (w := w) (base := base) T
    obtain ⟨x0, x1, x2, rfl, h⟩ := h
    refine ⟨_, (pss_cons (ps_set (i := 3) nd rfl (Or.inl rfl) (pe_lst pa_nil)) (pss_cons (ps_for PassesOwn.never rfl (pi_range1 (by rfl) T.b_range (pa_cons (pv 2) pa_nil)) (pg_name (i := 4) nd rfl (Or.inl rfl)) (pss_cons (ps_par (i := 5) (j := 6) rfl nd rfl rfl (by decide) rfl rfl (pa_cons (pe_callO c__law_pick (hr.mono (by first | decide | omega)) (pa_cons (pv 0) (pa_cons (pv 1) pa_nil))) (pa_cons (pe_callO c__law_pick (hr.mono (by first | decide | omega)) (pa_cons (pv 0) (pa_cons (pv 1) pa_nil))) pa_nil)) (by rfl)) (pss_cons (ps_set (i := 7) nd rfl (Or.inl rfl) (pe_lst (pa_cons (pe_tup (pa_cons pe_str (pa_cons pe_str (pa_cons pe_str (pa_cons (pe_tup (pa_cons (pe_tup (pa_cons pe_str (pa_cons pe_str pa_nil))) (pa_cons (pe_tup (pa_cons pe_str (pa_cons (pv 6) (pa_cons pe_str pa_nil)))) pa_nil))) pa_nil))))) (pa_cons (pe_tup (pa_cons pe_str (pa_cons pe_str pa_nil))) (pa_cons (pe_tup (pa_cons pe_str (pa_cons (pv 6) (pa_cons pe_bl pa_nil)))) pa_nil))))) (pss_one (ps_expr (pe_bm PySem.F.plainAttrs_list PySem.F.slot_list_append PySem.F.type_list_append mt_append (pv 3) (pa_cons (pe_tup (pa_cons (pv 5) (pa_cons (pe_op op_add pe_int (pe_callO c__law_draw (hr.mono (by first | decide | omega)) (pa_cons (pv 0) (pa_cons pe_int pa_nil)))) (pa_cons (pe_callO c__law_pick (hr.mono (by first | decide | omega)) (pa_cons (pv 0) (pa_cons (pe_op op_cat (pv 7) (pe_lst (pa_cons (pe_tup (pa_cons pe_str (pa_cons (pv 6) (pa_cons pe_int pa_nil)))) (pa_cons (pe_tup (pa_cons pe_str (pa_cons pe_str (pa_cons pe_str (pa_cons (pe_tup pa_nil) pa_nil))))) pa_nil)))) pa_nil))) pa_nil)))) pa_nil))))))) (pss_one (ps_ret (pv 3))))), ?_⟩
    obtain ⟨a, n, l, names, many, rfl, pa, hn, rfl, el, nok, l1, l10, rfl, hm, q⟩ := h
    have z1001 : (1001 : Nat) ≤ sizeLine := by decide
    have z2 : 2 ≤ sizeLine := by decide
    have z3 : 3 ≤ sizeLine := by decide
    have z4 : 4 ≤ sizeLine := by decide
    refine ⟨by decide, fun c hc => ?_⟩
    have s1 := same_new (o := .lst []) hc
    refine ⟨_, rfl, many, rfl, by omega, by omega, for_it walk_range (fun i σ H2 => ∃ (v4 v5 v6 v7 : Option V) (n2 : Nat) (rs : List LR), σ = [some (.ref a.p), some (.ref l), some (.int many), some (.ref c), v4, v5, v6, v7] ∧ But1 a.p H H2 ∧ PenAt H2 a n2 ∧ n2 ≤ n + 4 * i ∧ LstAt H2 c lrDt rs ∧ rs.length = i ∧ ∀ x ∈ rs, LrOk names x)
      ⟨_, _, _, _, n, [], rfl, but_same s1, pa.same s1, by omega, ⟨_, upd_same, trivial⟩, rfl, by simp⟩ (fun _ _ _ _ _ => trivial) ?_ ?_⟩
    · rintro i x σ H2 H3 hi ⟨v4, v5, v6, v7, n2, rs, rfl, b2, pa2, hn2, lr, hl, hok⟩ ⟨rfl, rfl⟩
      refine ⟨_, rfl, _, rfl, pick_strs pa2 (by omega) (pa.lst b2 el) (by omega) (by omega) fun H4 o1 b4 pa4 ho1 => ⟨_, rfl, _, rfl, pick_strs pa4 (by omega) (pa.lst (b2.trans b4) el) (by omega) (by omega) fun H5 o2 b5 pa5 ho2 => ⟨_, _, rfl, ?_⟩⟩⟩
      have b35 := b4.trans b5
      refine ⟨z2, fun t1 ht1 => ⟨_, rfl, z3, fun t2 ht2 => ⟨z2, fun t3 ht3 => ⟨z4, fun t4 ht4 => ⟨z2, fun t5 ht5 => ⟨_, rfl, z3, fun t6 ht6 => ⟨z3, fun l7 hl7 => ?_⟩⟩⟩⟩⟩⟩⟩
      have q1 := same_new (o := .tup [.str "word", .str "old"]) ht1
      have q2 := same_new (o := .tup [.str "see", .str o2, .str "p1"]) ht2
      have q3 := same_new (o := .tup [.ref t1, .ref t2]) ht3
      have q4 := same_new (o := .tup [.str "post", .str "p1", .str "tea", .ref t3]) ht4
      have q5 := same_new (o := .tup [.str "take", .str "p1"]) ht5
      have q6 := same_new (o := .tup [.str "block", .str o2, .bl true]) ht6
      have q7 := same_new (o := .lst [.ref t4, .ref t5, .ref t6]) hl7
      have tv7 : TvAll (upd (upd (upd (upd (upd (upd (upd H5 t1 (.tup [.str "word", .str "old"])) t2 (.tup [.str "see", .str o2, .str "p1"])) t3 (.tup [.ref t1, .ref t2])) t4 (.tup [.str "post", .str "p1", .str "tea", .ref t3])) t5 (.tup [.str "take", .str "p1"])) t6 (.tup [.str "block", .str o2, .bl true])) l7 (.lst [.ref t4, .ref t5, .ref t6]))
          ([Say.post "p1" "tea" [.word "old", .see o2 "p1"], .take "p1", .block o2 true].map Say.dt) [.ref t4, .ref t5, .ref t6] :=
        ⟨⟨t4, _, rfl, q7 _ _ (q6 _ _ (q5 _ _ upd_same)), rfl, rfl, rfl, ⟨t3, _, rfl, q7 _ _ (q6 _ _ (q5 _ _ (q4 _ _ upd_same))), ⟨t1, _, rfl, q7 _ _ (q6 _ _ (q5 _ _ (q4 _ _ (q3 _ _ (q2 _ _ upd_same))))), rfl, rfl, trivial⟩, ⟨t2, _, rfl, q7 _ _ (q6 _ _ (q5 _ _ (q4 _ _ (q3 _ _ upd_same)))), rfl, rfl, rfl, trivial⟩, trivial⟩, trivial⟩,
          ⟨t5, _, rfl, q7 _ _ (q6 _ _ upd_same), rfl, rfl, trivial⟩, ⟨t6, _, rfl, q7 _ _ upd_same, rfl, rfl, rfl, trivial⟩, trivial⟩
      have e7 : (upd (upd (upd (upd (upd (upd (upd H5 t1 (.tup [.str "word", .str "old"])) t2 (.tup [.str "see", .str o2, .str "p1"])) t3 (.tup [.ref t1, .ref t2])) t4 (.tup [.str "post", .str "p1", .str "tea", .ref t3])) t5 (.tup [.str "take", .str "p1"])) t6 (.tup [.str "block", .str o2, .bl true])) l7 (.lst [.ref t4, .ref t5, .ref t6])) l7 = some (.lst [.ref t4, .ref t5, .ref t6]) := upd_same
      have s7 := ((((((q1.trans q2).trans q3).trans q4).trans q5).trans q6).trans q7)
      generalize upd (upd (upd (upd (upd (upd (upd H5 t1 (.tup [.str "word", .str "old"])) t2 (.tup [.str "see", .str o2, .str "p1"])) t3 (.tup [.ref t1, .ref t2])) t4 (.tup [.str "post", .str "p1", .str "tea", .ref t3])) t5 (.tup [.str "take", .str "p1"])) t6 (.tup [.str "block", .str o2, .bl true])) l7 (.lst [.ref t4, .ref t5, .ref t6]) = H7 at tv7 e7 s7 ⊢
      have pa7 := pa5.same s7
      have b37 := b35.trans (but_same s7)
      obtain ⟨xs7, ex7, _⟩ := id (lr.pen pa2 b37)
      refine ⟨_, rfl, .inl ⟨rfl, _, SqL.of ex7⟩, _, rfl, _, rfl, _, _, rfl, _, _, _, rfl, pa7, by omega, rfl, by omega, by omega, fun H8 k8 b8 pa8 k80 k81 => ⟨_, _, rfl, rfl, _, rfl, _, rfl, _, rfl, z3, fun t9 ht9 => ⟨by decide, fun t10 ht10 => ⟨z4, fun t11 ht11 => ⟨z2, fun l12 hl12 => ?_⟩⟩⟩⟩⟩
      have q9 := same_new (o := .tup [.str "circle", .str o2, .int 2]) ht9
      have q10 := same_new (o := .tup []) ht10
      have q11 := same_new (o := .tup [.str "post", .str "p2", .str "den", .ref t10]) ht11
      have q12 := same_new (o := .lst [.ref t9, .ref t11]) hl12
      have s12 := ((q9.trans q10).trans q11).trans q12
      have tv12 : TvAll (upd (upd (upd (upd H8 t9 (.tup [.str "circle", .str o2, .int 2])) t10 (.tup [])) t11 (.tup [.str "post", .str "p2", .str "den", .ref t10])) l12 (.lst [.ref t9, .ref t11])) ([Say.circle o2 2, .post "p2" "den" []].map Say.dt) [.ref t9, .ref t11] :=
        ⟨⟨t9, _, rfl, q12 _ _ (q11 _ _ (q10 _ _ upd_same)), rfl, rfl, rfl, trivial⟩, ⟨t11, _, rfl, q12 _ _ upd_same, rfl, rfl, rfl, ⟨t10, [], rfl, q12 _ _ (q11 _ _ upd_same), trivial⟩, trivial⟩, trivial⟩
      have e12 : (upd (upd (upd (upd H8 t9 (.tup [.str "circle", .str o2, .int 2])) t10 (.tup [])) t11 (.tup [.str "post", .str "p2", .str "den", .ref t10])) l12 (.lst [.ref t9, .ref t11])) l12 = some (.lst [.ref t9, .ref t11]) := upd_same
      have e712 := s12 _ _ (pa7.lst b8 e7)
      have tv712 := (tv7.keep (pa7.tk b8)).keep (tk_same s12)
      generalize upd (upd (upd (upd H8 t9 (.tup [.str "circle", .str o2, .int 2])) t10 (.tup [])) t11 (.tup [.str "post", .str "p2", .str "den", .ref t10])) l12 (.lst [.ref t9, .ref t11]) = H12 at tv12 e12 s12 e712 tv712 ⊢
      have pa12 := pa8.same s12
      refine ⟨l7, l12, _, _, rfl, rfl, e712, e12, by show 3 + 2 ≤ sizeLine; decide, fun l13 hl13 => ?_⟩
      have tvA := (tv712.app tv12).keep (tk_new (o := .lst ([.ref t4, .ref t5, .ref t6] ++ [.ref t9, .ref t11])) hl13)
      have hn13 := same_new (o := .lst ([.ref t4, .ref t5, .ref t6] ++ [.ref t9, .ref t11])) hl13
      refine pick_of (pa12.same hn13) (by omega) upd_same (by simp) (by simp) fun H14 y b14 pa14 hy => ⟨z3, fun t ht => ?_⟩
      obtain ⟨ds, hds, ty⟩ := TvAll.mem tvA hy
      have hds : ds ∈ (moreSays o2).map Say.dt := hds
      obtain ⟨s, hs, rfl⟩ := List.mem_map.mp hds
      have s15 := same_new (o := .tup [.str o1, .int (1 + k8), y]) ht
      have bA := ((b37.trans b8).trans ((but_same (s12.trans hn13)).trans b14)).trans (but_same s15)
      obtain ⟨xs, ex, lx, lr2, _⟩ := (lr.pen pa2 bA).snoc (f := lrDt) (x := (o1, 1 + k8, s)) (y := .ref t) ⟨t, _, rfl, upd_same, rfl, rfl, (ty.keep ((pa12.same hn13).tk b14)).keep (tk_same s15), trivial⟩
      refine ⟨c, _, _, rfl, rfl, ex, by omega, _, _, _, _, n2 + 4, _, rfl, (b2.trans bA).upd_free hc, pa.upd (pa14.same s15) hc, by omega, lr2, by simp [hl], mem_app_of hok ⟨ho1, by show (1 : Int) ≤ 1 + k8; omega, by show 1 + k8 ≤ (10 : Int) ^ 24; omega, more_ok ho2 (nok.ok _ ho2) s hs⟩⟩
    · rintro σ H2 ⟨v4, v5, v6, v7, n2, rs, rfl, b2, pa2, hn2, lr, hl, hok⟩
      exact ⟨_, rfl, q _ n2 c rs b2 pa2 (by omega) hc lr hok (by omega)⟩
structure WorldAt (H : Hp) (ln R ll : Addr) (names : List Str) (d : RowsD) (rs : List LR) : Prop where
  n : H ln = some (.lst (names.map V.str))
  r : RowsAt H R d
  l : LstAt H ll lrDt rs
structure WorldOk (names : List Str) (d : RowsD) (rs : List LR) : Prop where
  n : NamesOk names
  l3 : 3 ≤ names.length
  l10 : names.length ≤ 10
  d : d.Ok names
  r : ∀ x ∈ rs, LrOk names x
  l : rs.length ≤ 40
def sp_law_world : Sp := sp4 fun v x0 x1 x2 H Q => ∃ (a : PenA) (n least most many : Nat), v = .ref a.p ∧ PenAt H a n ∧ n + 2000 ≤ 1000000 ∧ x0 = .int least ∧ x1 = .int most ∧ x2 = .int many ∧ 3 ≤ least ∧ least ≤ most ∧ most ≤ 10 ∧ many ≤ 9 ∧
  ∀ (H' : Hp) (n' : Nat) (r ln R ll : Addr) (names : List Str) (d : RowsD) (rs : List LR), But1 a.p H H' → PenAt H' a n' → n' ≤ n + 1000 → H' r = some (.tup [.ref ln, .ref R, .ref ll]) → WorldAt H' ln R ll names d rs → WorldOk names d rs → H R = none → Q (.ref r) H'
abbrev N__law_world : List Str := ["pen", "least", "most", "many", "names", "rows"]
theorem sc__law_world : FnScope N__law_world ["pen", "least", "most", "many"] (defScope s__law_world) := ⟨rfl, rfl, rfl, by decide +kernel, rfl, by decide +kernel, by decide +kernel⟩
theorem ok__law_world (T : Txt K mg) : CallOk P w K mg base 5 "_law_world" ["pen", "least", "most", "many"] [] sp_law_world := by
  refine call_ok T 83 T.g__law_world sc__law_world (fun vs H Q E h => ?_) (fun f cdv A outer s H vs Q E hr h => ?_) (fun _ _ _ _ _ _ us hl => match us, hl with | [_, _, _, _], _ => rfl)
  · obtain ⟨x0, x1, x2, x3, rfl, _⟩ := h
    rfl
  · have nd := sc__law_world.nd
    have hu := hu_of hr
    have hu64 := hu64_of hr
    have c__law_names := ok__law_names (P := P) (w := w) (base := base) T
    have c__law_draw := ok__law_draw (P := P) (w := w) (base := base) T
    have c__law_some_forum := ok__law_some_forum (P := P) (w := w) (base := base) T
    have c__law_some_letters := ok__law_some_letters (P := P) (w := w) (base := base) T
    obtain ⟨x0, x1, x2, x3, rfl, h⟩ := h
    refine ⟨_, (pss_cons (ps_set (i := 4) nd rfl (Or.inl rfl) (pe_callO c__law_names (hr.mono (by first | decide | omega)) (pa_cons (pv 0) (pa_cons (pe_op op_add (pv 1) (pe_callO c__law_draw (hr.mono (by first | decide | omega)) (pa_cons (pv 0) (pa_cons (pe_op op_add (pe_op op_sub (pv 2) (pv 1)) pe_int) pa_nil)))) pa_nil)))) (pss_cons (ps_set (i := 5) nd rfl (Or.inl rfl) (pe_callO c__law_some_forum (hr.mono (by first | decide | omega)) (pa_cons (pv 0) (pa_cons (pv 4) pa_nil)))) (pss_one (ps_ret (pe_tup (pa_cons (pv 4) (pa_cons (pv 5) (pa_cons (pe_callO c__law_some_letters (hr.mono (by first | decide | omega)) (pa_cons (pv 0) (pa_cons (pv 5) (pa_cons (pv 4) (pa_cons (pe_callO c__law_draw (hr.mono (by first | decide | omega)) (pa_cons (pv 0) (pa_cons (pe_op op_add (pv 3) pe_int) pa_nil))) pa_nil))))) pa_nil)))))))), ?_⟩
    obtain ⟨a, n, least, most, many, rfl, pa, hn, rfl, rfl, rfl, h3, hlm, h10, hm, q⟩ := h
    have z3 : 3 ≤ sizeLine := by decide
    refine ⟨_, rfl, _, rfl, _, rfl, _, rfl, _, rfl, _, _, rfl, rfl, _, _, rfl, rfl, _, _, rfl, _, _, _, rfl, pa, by omega, rfl, by omega, by omega, fun H1 k1 b1 pa1 k10 k11 => ⟨_, _, rfl, rfl, ?_⟩⟩
    obtain ⟨k, rfl⟩ : ∃ k : Nat, k1 = (k : Int) := ⟨k1.toNat, by omega⟩
    refine ⟨_, _, rfl, a, n + 1, least + k, rfl, pa1, by omega, congrArg V.int (by omega), by omega, fun H2 n2 ln names b2 pa2 hn2 hln eln nok lnm => ?_⟩
    refine ⟨_, rfl, _, rfl, _, _, rfl, a, n2, ln, names, rfl, pa2, by omega, rfl, eln, nok, by omega, by omega, fun H3 n3 R d b3 pa3 hn3 hR eR dok => ?_⟩
    have eln3 := pa2.lst b3 eln
    have nRp : R ≠ a.p := fun z => pa2.p_occ (by rw [← z]; exact hR)
    refine ⟨_, rfl, _, rfl, _, rfl, _, rfl, _, rfl, _, rfl, _, rfl, _, _, rfl, rfl, _, _, rfl, _, _, _, rfl, pa3, by omega, rfl, by omega, by omega, fun H4 k4 b4 pa4 k40 k41 => ?_⟩
    have nR4 := eR.but b4 nRp (pa3.tk b4)
    have eln4 := pa3.lst b4 eln3
    refine ⟨_, _, _, _, rfl, a, n3 + 1, R, ln, d, names, k4.toNat, rfl, pa4, by omega, rfl, nR4, nRp, dok, rfl, eln4, nok, by omega, by omega, congrArg V.int (by omega), by omega, fun H5 n5 ll rs b5 pa5 hn5 hll lr hok hrl => ⟨z3, fun t ht => ?_⟩⟩
    have s6 := same_new (o := .tup [.ref ln, .ref R, .ref ll]) ht
    have bA := (((b1.trans b2).trans b3).trans b4).trans b5
    have k6 : Tk H4 _ := (pa4.tk b5).trans (tk_same s6)
    refine q _ n5 t ln R ll names d rs (bA.trans (but_same s6)) (pa5.same s6) (by omega) upd_same ⟨s6 _ _ (pa4.lst b5 eln4), nR4.but (b5.trans (but_same s6)) nRp k6, lr.same s6⟩ ⟨nok, by omega, by omega, dok, hok, hrl⟩ ((b1.trans b2).free hR fun z => nRp z)
def LRow.lr (e : LRow) : LR := (e.acc, e.num, e.s)
def sp_law_letter_rows (K : PySem.W.Frag) : Sp := sp1 fun v H Q => ∃ (t : Addr) (l : List LRow), v = .ref t ∧ H t = some (.tup (l.map fun e => .ref e.a)) ∧ (∀ e ∈ l, LRow.At K H e) ∧ l.length ≤ 1000 ∧ ∀ (H' : Hp) (r : Addr), Same H H' → H r = none → LstAt H' r (fun e : LRow => lrDt e.lr) l → Q (.ref r) H'
abbrev N__law_letter_rows : List Str := ["letters", "letter"]
theorem sc__law_letter_rows : FnScope N__law_letter_rows ["letters"] (defScope s__law_letter_rows) := ⟨rfl, rfl, rfl, by decide +kernel, rfl, by decide +kernel, by decide +kernel⟩
theorem ok__law_letter_rows (T : Txt K mg) : CallOk P w K mg base 1 "_law_letter_rows" ["letters"] [] (sp_law_letter_rows K) := by
  refine call_ok T 82 T.g__law_letter_rows sc__law_letter_rows (fun vs H Q E h => ?_) (fun f cdv A outer s H vs Q E hr h => ?_) (fun _ _ _ _ _ _ us hl => match us, hl with | [_], _ => rfl)
  · obtain ⟨x0, rfl, _⟩ := h
    rfl
  · have nd := sc__law_letter_rows.nd
    have hu := hu_of hr
    have hu64 := hu64_of hr
    obtain ⟨x0, rfl, h⟩ := h
    refine ⟨_, (pss_one (ps_ret (pe_lc (own := [("letter", 1)]) (g := (gName 1)) (tt := tYes) rfl nd (pi_tup (pv 0)) (blkOk_by (own := [("letter", 1)]) (N := N__law_letter_rows) (sc := defScope s__law_letter_rows) (by decide +kernel)) (fun _ _ _ _ _ => (pg_name (i := 1) nd rfl (Or.inl rfl))) (fun _ _ _ _ _ => pts_nil) (fun _ _ _ _ _ => (pe_tup (pa_cons (fldK (K := K) (pv 1) rfl) (pa_cons (fldK (K := K) (pv 1) rfl) (pa_cons (fldK (K := K) (pv 1) rfl) pa_nil)))))))), ?_⟩
    obtain ⟨t, l, rfl, et, hat, hl, q⟩ := h
    have z1001 : (1001 : Nat) ≤ sizeLine := by decide
    refine ⟨_, rfl, t, rfl, ⟨_, SqT.of et⟩, fun D hD => lc_rel walk_tup (fun i m H' => TvAll H' ((l.take i).map fun e : LRow => lrDt e.lr) m) hD (fun H' s => SqT.of (s _ _ et)) trivial ?_ ?_⟩
    · rintro i x m H2 H3 hi hl2 s e3 r ⟨rfl, hx⟩
      obtain ⟨e, he, rfl⟩ := getMap hx
      obtain ⟨⟨dx, sv, o, tv⟩, _⟩ := LRow.same s (hat e (List.mem_of_getElem? he))
      rw [List.length_map] at hi
      refine ⟨rfl, _, rfl, _, _, _, _, _, rfl, o, T.cls_Letter, T.na_Letter_account, fl_Letter_account .., _, rfl, _, _, _, _, _, rfl, o, T.cls_Letter, T.na_Letter_number, fl_Letter_number .., _, rfl, _, _, _, _, _, rfl, o, T.cls_Letter, T.na_Letter_saying, fl_Letter_saying .., (by show 3 ≤ sizeLine; decide), fun u hu => ?_⟩
      have s4 := same_new (o := .tup [.str e.acc, .int e.num, sv]) hu
      have e4 := s4 _ _ e3
      have uD : u ≠ D := fun z => by rw [z, e3] at hu; cases hu
      have k5 : Tk H3 (upd (upd H3 u (.tup [.str e.acc, .int e.num, sv])) D (.lst (m ++ [.ref u]))) := (tk_same s4).trans (tk_mut e4 (by intro _ z; cases z))
      refine lc_take hD (by omega) hl2 (s.trans s4) e4 ?_
      rw [take_snoc he, List.map_append]
      exact (r.keep k5).app (TvAll.one ⟨u, [.str e.acc, .int e.num, sv], rfl, by rw [upd_ne uD]; exact upd_same, rfl, rfl, tv.keep k5, trivial⟩)
    · rintro m H2 hl2 s e3 r
      rw [List.length_map, List.take_length] at r
      exact q _ D s hD ⟨_, e3, r⟩
end
end Lv
set_option maxHeartbeats 4000000
namespace Lv
open PySem PySem.Spec PyProof.Rows L2
def leS (a b : Str) : Prop := cods a ≤ cods b
theorem leS_of {a b : Str} (h : ltCps b.cps.toList a.cps.toList = false) : leS a b := by
  rw [ltCps_eq] at h
  have := of_decide_eq_false h
  exact List.not_lt.mp this
theorem pw_of : ∀ {l : List Str} {p : Str}, risingS p l = true → (p :: l).Pairwise leS
  | [], p, _ => List.pairwise_singleton _ _
  | x :: l, p, h => by
    have h : (!ltCps x.cps.toList p.cps.toList && risingS x l) = true := h
    obtain ⟨h1, h2⟩ := band h
    have h1 : ltCps x.cps.toList p.cps.toList = false := by simpa using h1
    have h3 := leS_of h1
    have ih := pw_of h2
    refine List.pairwise_cons.mpr ⟨fun y hy => ?_, ih⟩
    rcases List.mem_cons.mp hy with rfl | hy
    · exact h3
    · exact List.le_trans h3 ((List.pairwise_cons.mp ih).1 y hy)
theorem sorted_pw {l : List Str} (h : sortedS l = true) : l.Pairwise leS := by
  cases l with
  | nil => exact .nil
  | cons x l => exact pw_of h
theorem leS_anti {a b : Str} (h1 : leS a b) (h2 : leS b a) : a = b := cods_inj (List.le_antisymm h1 h2)
theorem pw_unique : ∀ {xs ys : List Str}, xs.Pairwise leS → ys.Pairwise leS → xs.Perm ys → xs = ys
  | [], ys, _, _, p => (List.nil_perm.mp p).symm
  | x :: xs, [], _, _, p => by
    have := p.length_eq
    simp at this
  | x :: xs, y :: ys, hx, hy, p => by
    have e : x = y := by
      have m1 : x ∈ y :: ys := p.mem_iff.mp List.mem_cons_self
      have m2 : y ∈ x :: xs := p.mem_iff.mpr List.mem_cons_self
      rcases List.mem_cons.mp m1 with h | h
      · exact h
      · rcases List.mem_cons.mp m2 with g | g
        · exact g.symm
        · exact leS_anti ((List.pairwise_cons.mp hx).1 y g) ((List.pairwise_cons.mp hy).1 x h)
    subst e
    rw [pw_unique (List.pairwise_cons.mp hx).2 (List.pairwise_cons.mp hy).2 ((List.perm_cons x).mp p)]
theorem sorted_unique {xs ys : List Str} (hx : sortedS xs = true) (hy : sortedS ys = true) (p : xs.Perm ys) : xs = ys := pw_unique (sorted_pw hx) (sorted_pw hy) p
theorem perm_nd {α : Type} [DecidableEq α] : ∀ {l m : List α}, l.Nodup → m.Nodup → (∀ x, x ∈ l ↔ x ∈ m) → l.Perm m
  | [], m, _, _, h => by
    cases m with
    | nil => exact .refl _
    | cons y m => exact absurd ((h y).mpr List.mem_cons_self) (by simp)
  | x :: l, m, hl, hm, h => by
    have hx : x ∈ m := (h x).mp List.mem_cons_self
    have hl2 := List.nodup_cons.mp hl
    refine (List.Perm.cons x (perm_nd hl2.2 (hm.erase x) fun y => ?_)).trans (List.perm_cons_erase hx).symm
    rw [hm.mem_erase_iff]
    constructor
    · intro hy
      exact ⟨fun e => hl2.1 (e ▸ hy), (h y).mp (List.mem_cons_of_mem _ hy)⟩
    · rintro ⟨h1, h2⟩
      exact (List.mem_cons.mp ((h y).mpr h2)).resolve_left h1
theorem keys_app {ds : List Dt} : Dt.keys ds = ds.map Dt.key := by
  induction ds with
  | nil => rfl
  | cons d ds ih =>
    show d.key :: Dt.keys ds = _
    rw [ih]
    rfl
theorem pkey_inj : ∀ {p q : Piece}, p.dt.key = q.dt.key → p = q
  | .word a, .word b, h => by
    have h : NestedKey.tup [.text "word", .text a] = NestedKey.tup [.text "word", .text b] := h
    simp at h
    rw [h]
  | .word a, .see b c, h => by
    have h : NestedKey.tup [.text "word", .text a] = NestedKey.tup [.text "see", .text b, .text c] := h
    simp at h
  | .see b c, .word a, h => by
    have h : NestedKey.tup [.text "see", .text b, .text c] = NestedKey.tup [.text "word", .text a] := h
    simp at h
  | .see a b, .see c d, h => by
    have h : NestedKey.tup [.text "see", .text a, .text b] = NestedKey.tup [.text "see", .text c, .text d] := h
    simp at h
    rw [h.1, h.2]
theorem pkeys_inj : ∀ {b c : List Piece}, (b.map Piece.dt).map Dt.key = (c.map Piece.dt).map Dt.key → b = c
  | [], [], _ => rfl
  | [], _ :: _, h => by cases h
  | _ :: _, [], h => by cases h
  | p :: b, q :: c, h => by
    obtain ⟨h1, h2⟩ := List.cons.inj h
    rw [pkey_inj h1, pkeys_inj h2]
theorem bkey_inj {a b : Bool} (h : (if a = true then (1 : Int) else 0) = if b = true then 1 else 0) : a = b := by
  cases a <;> cases b <;> first | rfl | (exfalso; revert h; decide)
theorem skey (s : Say) : s.dt.key = .tup (.text s.tag :: s.rest.map Dt.key) := by
  rw [s.dt_eq]
  show NestedKey.tup (Dt.keys (.str s.tag :: s.rest)) = _
  rw [keys_app]
  rfl
theorem skey_inj {s t : Say} (h : s.dt.key = t.dt.key) : s = t := by
  rw [skey, skey] at h
  replace h := NestedKey.tup.inj h
  obtain ⟨h1, h2⟩ := List.cons.inj h
  have ht := tag_ne s t (NestedKey.text.inj h1)
  cases s <;> cases t <;> first | exact ht.elim | skip
  case vouch.vouch n k m l =>
    have h2 : [NestedKey.text n, .num k] = [.text m, .num l] := h2
    simp at h2
    rw [h2.1, h2.2]
  case circle.circle n k m l =>
    have h2 : [NestedKey.text n, .num k] = [.text m, .num l] := h2
    simp at h2
    rw [h2.1, h2.2]
  case back.back n b m c =>
    have h2 : [NestedKey.text n, .num (if b = true then 1 else 0)] = [.text m, .num (if c = true then 1 else 0)] := h2
    obtain ⟨q1, q2⟩ := List.cons.inj h2
    rw [NestedKey.text.inj q1, bkey_inj (NestedKey.num.inj (List.cons.inj q2).1)]
  case block.block n b m c =>
    have h2 : [NestedKey.text n, .num (if b = true then 1 else 0)] = [.text m, .num (if c = true then 1 else 0)] := h2
    obtain ⟨q1, q2⟩ := List.cons.inj h2
    rw [NestedKey.text.inj q1, bkey_inj (NestedKey.num.inj (List.cons.inj q2).1)]
  case take.take n m =>
    have h2 : [NestedKey.text n] = [.text m] := h2
    simp at h2
    rw [h2]
  case speak.speak a b c a' b' c' =>
    have h2 : [NestedKey.text a, .text b, .text c] = [.text a', .text b', .text c'] := h2
    simp at h2
    rw [h2.1, h2.2.1, h2.2.2]
  case post.post n t b n' t' b' =>
    have h2 : [NestedKey.text n, .text t, .tup (Dt.keys (b.map Piece.dt))] = [.text n', .text t', .tup (Dt.keys (b'.map Piece.dt))] := h2
    rw [keys_app, keys_app] at h2
    obtain ⟨q1, q2⟩ := List.cons.inj h2
    obtain ⟨q2, q3⟩ := List.cons.inj q2
    rw [NestedKey.text.inj q1, NestedKey.text.inj q2, pkeys_inj (NestedKey.tup.inj (List.cons.inj q3).1)]
theorem pdepth (p : Piece) : p.dt.key.depth ≤ 1 := by
  cases p with
  | word w => show max 0 (max 0 0) + 1 ≤ 1; decide
  | see a b => show max 0 (max 0 (max 0 0)) + 1 ≤ 1; decide
theorem depthAll_le {n : Nat} : ∀ {l : List NestedKey}, (∀ x ∈ l, x.depth ≤ n) → NestedKey.depthAll l ≤ n
  | [], _ => Nat.zero_le _
  | x :: l, h => by
    show max x.depth (NestedKey.depthAll l) ≤ n
    exact Nat.max_le.mpr ⟨h x List.mem_cons_self, depthAll_le fun y hy => h y (List.mem_cons_of_mem _ hy)⟩
theorem sdepth (s : Say) : s.dt.key.depth ≤ 3 := by
  cases s with
  | post n t b =>
    have h : NestedKey.depthAll (Dt.keys (b.map Piece.dt)) ≤ 1 := depthAll_le fun x hx => by
      rw [keys_app, List.map_map] at hx
      obtain ⟨p, _, rfl⟩ := List.mem_map.mp hx
      exact pdepth p
    show max 0 (max 0 (max 0 (max (NestedKey.depthAll (Dt.keys (b.map Piece.dt)) + 1) 0))) + 1 ≤ 3
    omega
  | _ => show (1 : Nat) ≤ 3; decide
theorem kLR : KeyF lrDt where
  inj := fun ⟨a, n, s⟩ ⟨b, m, t⟩ h => by
    have h : NestedKey.tup [.text a, .num n, s.dt.key] = NestedKey.tup [.text b, .num m, t.dt.key] := h
    have h := NestedKey.tup.inj h
    obtain ⟨q1, q2⟩ := List.cons.inj h
    obtain ⟨q2, q3⟩ := List.cons.inj q2
    rw [NestedKey.text.inj q1, NestedKey.num.inj q2, skey_inj (List.cons.inj q3).1]
  depth := fun ⟨a, n, s⟩ => by
    have := sdepth s
    show max 0 (max 0 (max s.dt.key.depth 0)) + 1 ≤ 8
    omega
def Dt.fine : Nat → Dt → Prop
  | _, .str x => PyData.strOk x = true
  | 0, .tup _ => False
  | n + 1, .tup l => ∀ d ∈ l, Dt.fine n d
  | _, _ => True
theorem pys_map (l : List Dt) : Dt.pys l = l.map Dt.py := by
  induction l with
  | nil => rfl
  | cons d l ih =>
    show d.py :: Dt.pys l = _
    rw [ih]
    rfl
theorem layAll {l : List PyData} (h : ∀ d ∈ l, d.canLay0 = true) : PyData.canLayAll0 l = true := by
  induction l with
  | nil => rfl
  | cons d l ih =>
    show (d.canLay0 && PyData.canLayAll0 l) = true
    rw [h d List.mem_cons_self, ih fun x hx => h x (List.mem_cons_of_mem _ hx)]
    rfl
theorem depAll {n : Nat} {l : List PyData} (h : ∀ d ∈ l, d.depth ≤ n) : PyData.depthAll l ≤ n := by
  induction l with
  | nil => exact Nat.zero_le _
  | cons d l ih =>
    show max d.depth (PyData.depthAll l) ≤ n
    exact Nat.max_le.mpr ⟨h d List.mem_cons_self, ih fun x hx => h x (List.mem_cons_of_mem _ hx)⟩
theorem fine_lay : ∀ (n : Nat) (d : Dt), Dt.fine n d → d.py.canLay0 = true ∧ d.py.depth ≤ n
  | n, .non, _ => ⟨rfl, Nat.zero_le _⟩
  | n, .bl _, _ => ⟨rfl, Nat.zero_le _⟩
  | n, .int _, _ => ⟨rfl, Nat.zero_le _⟩
  | n, .str x, h => by
    have h : PyData.strOk x = true := by
      cases n <;> exact h
    exact ⟨h, Nat.zero_le _⟩
  | 0, .tup l, h => h.elim
  | n + 1, .tup l, h => by
    have h : ∀ d ∈ l, Dt.fine n d := h
    have key : ∀ x ∈ Dt.pys l, x.canLay0 = true ∧ x.depth ≤ n := fun x hx => by
      rw [pys_map] at hx
      obtain ⟨d, hd, rfl⟩ := List.mem_map.mp hx
      exact fine_lay n d (h d hd)
    refine ⟨layAll fun x hx => (key x hx).1, ?_⟩
    show PyData.depthAll (Dt.pys l) + 1 ≤ n + 1
    have := depAll fun x hx => (key x hx).2
    omega
theorem fine_shaped {d : Dt} (h : Dt.fine 8 d) : SeqAt.shaped d.py = true := by
  obtain ⟨h1, h2⟩ := fine_lay 8 d h
  unfold SeqAt.shaped
  rw [h1, decide_eq_true (by omega)]
  rfl
theorem fine_eq {d : Dt} (h : Dt.fine 8 d) : PyData.eqv d.py d.py = true := SeqAt.eqv_refl _ (fine_lay 8 d h).1
theorem name_sok {z : Str} (h : nameOk z = true) : PyData.strOk z = true := by
  obtain ⟨h, _⟩ := band h
  unfold madeOf at h
  obtain ⟨_, h⟩ := band h
  unfold PyData.strOk
  rw [Array.all_eq_true_iff_forall_mem]
  intro c hc
  have h1 : c ∈ cods signsS := of_decide_eq_true (List.all_eq_true.mp h c (by simpa using hc))
  have h2 : c ∈ (lettersS ++ ("0123456789" : Str)).cps.toList := h1
  rw [Str.cps_append, Array.toList_append, List.mem_append, figs, List.mem_map] at h2
  rcases h2 with h2 | ⟨k, hk, rfl⟩
  · have := let_iff.mp h2
    exact decide_eq_true (by omega)
  · have := List.mem_range.mp hk
    exact decide_eq_true (by omega)
theorem fine_strs {zs : List Str} (h : ∀ z ∈ zs, nameOk z = true) : Dt.fine 8 (.tup (zs.map Dt.str)) := fun d hd => by
  obtain ⟨z, hz, rfl⟩ := List.mem_map.mp hd
  exact name_sok (h z hz)
section
variable {K : PySem.W.Frag} {H : Hp} {x y : V} {d : Dt}
theorem eqD_same {Q : VK} (hx : Tv H d x) (hy : Tv H d y) (f : Dt.fine 8 d) (q : Q (.bl true) H) : rEqD K x y H Q :=
  ⟨d.py, d.py, hx.dp, hy.dp, fine_shaped f, fine_shaped f, by rw [fine_eq f]; exact q⟩
theorem neD_same {Q : VK} (hx : Tv H d x) (hy : Tv H d y) (f : Dt.fine 8 d) (q : Q (.bl false) H) : rNeD K x y H Q :=
  ⟨d.py, d.py, hx.dp, hy.dp, fine_shaped f, fine_shaped f, by rw [fine_eq f]; exact q⟩
end
end Lv
set_option maxHeartbeats 4000000
namespace Lv
open PySem PySem.Spec PyProof.Rows L2
def dd_net (v0 v1 v2 v3 : V) : List (Key × V) := [((Sum.inr "names" : Key), v0), ((Sum.inr "sure" : Key), v1), ((Sum.inr "sent" : Key), v2), ((Sum.inr "way" : Key), v3)]
theorem dd_net_names (v0 v1 v2 v3 : V) : valV (dd_net v0 v1 v2 v3) (Sum.inr "names" : Key) = some v0 := by
  have n1 : ¬ ("sure" : Str) = "names" := by decide +kernel
  have n2 : ¬ ("sent" : Str) = "names" := by decide +kernel
  have n3 : ¬ ("way" : Str) = "names" := by decide +kernel
  simp [valV, dd_net, n1, n2, n3]
theorem dd_net_put_names (v0 v1 v2 v3 x : V) : putK (dd_net v0 v1 v2 v3) (Sum.inr "names" : Key) x = dd_net x v1 v2 v3 := by
  have n1 : ¬ ("sure" : Str) = "names" := by decide +kernel
  have n2 : ¬ ("sent" : Str) = "names" := by decide +kernel
  have n3 : ¬ ("way" : Str) = "names" := by decide +kernel
  simp [putK, dd_net, n1, n2, n3]
theorem dd_net_sure (v0 v1 v2 v3 : V) : valV (dd_net v0 v1 v2 v3) (Sum.inr "sure" : Key) = some v1 := by
  have n0 : ¬ ("names" : Str) = "sure" := by decide +kernel
  have n2 : ¬ ("sent" : Str) = "sure" := by decide +kernel
  have n3 : ¬ ("way" : Str) = "sure" := by decide +kernel
  simp [valV, dd_net, n0, n2, n3]
theorem dd_net_put_sure (v0 v1 v2 v3 x : V) : putK (dd_net v0 v1 v2 v3) (Sum.inr "sure" : Key) x = dd_net v0 x v2 v3 := by
  have n0 : ¬ ("names" : Str) = "sure" := by decide +kernel
  have n2 : ¬ ("sent" : Str) = "sure" := by decide +kernel
  have n3 : ¬ ("way" : Str) = "sure" := by decide +kernel
  simp [putK, dd_net, n0, n2, n3]
theorem dd_net_sent (v0 v1 v2 v3 : V) : valV (dd_net v0 v1 v2 v3) (Sum.inr "sent" : Key) = some v2 := by
  have n0 : ¬ ("names" : Str) = "sent" := by decide +kernel
  have n1 : ¬ ("sure" : Str) = "sent" := by decide +kernel
  have n3 : ¬ ("way" : Str) = "sent" := by decide +kernel
  simp [valV, dd_net, n0, n1, n3]
theorem dd_net_put_sent (v0 v1 v2 v3 x : V) : putK (dd_net v0 v1 v2 v3) (Sum.inr "sent" : Key) x = dd_net v0 v1 x v3 := by
  have n0 : ¬ ("names" : Str) = "sent" := by decide +kernel
  have n1 : ¬ ("sure" : Str) = "sent" := by decide +kernel
  have n3 : ¬ ("way" : Str) = "sent" := by decide +kernel
  simp [putK, dd_net, n0, n1, n3]
theorem dd_net_way (v0 v1 v2 v3 : V) : valV (dd_net v0 v1 v2 v3) (Sum.inr "way" : Key) = some v3 := by
  have n0 : ¬ ("names" : Str) = "way" := by decide +kernel
  have n1 : ¬ ("sure" : Str) = "way" := by decide +kernel
  have n2 : ¬ ("sent" : Str) = "way" := by decide +kernel
  simp [valV, dd_net, n0, n1, n2]
theorem dd_net_put_way (v0 v1 v2 v3 x : V) : putK (dd_net v0 v1 v2 v3) (Sum.inr "way" : Key) x = dd_net v0 v1 v2 x := by
  have n0 : ¬ ("names" : Str) = "way" := by decide +kernel
  have n1 : ¬ ("sure" : Str) = "way" := by decide +kernel
  have n2 : ¬ ("sent" : Str) = "way" := by decide +kernel
  simp [putK, dd_net, n0, n1, n2]
theorem dd_net_mk (v0 v1 v2 v3 : V) : mergeK [] (dd_net v0 v1 v2 v3) = dd_net v0 v1 v2 v3 := by
  have n0_1 : ¬ ("names" : Str) = "sure" := by decide +kernel
  have n0_2 : ¬ ("names" : Str) = "sent" := by decide +kernel
  have n0_3 : ¬ ("names" : Str) = "way" := by decide +kernel
  have n1_2 : ¬ ("sure" : Str) = "sent" := by decide +kernel
  have n1_3 : ¬ ("sure" : Str) = "way" := by decide +kernel
  have n2_3 : ¬ ("sent" : Str) = "way" := by decide +kernel
  simp [mergeK, putK, dd_net, n0_1, n0_2, n0_3, n1_2, n1_3, n2_3]
section
variable {X : Cx} {K : PySem.W.Frag}
theorem call_dictPK (hc : X.calm = true := by rfl) (hK : X.K = K := by rfl) : CallR X (.type "dict") (fun xs H Q => ∃ (a : Addr) (ps : List Addr) (kvs : List (Key × V)), xs = [.ref a] ∧ SqL K H a (ps.map V.ref) ∧ Paired (fun p kv => SqT K H p [kV kv.1, kv.2]) ps kvs ∧ ∀ p, H p = none → Q (.ref p) (upd H p (.dK (mergeK [] kvs)))) := by
  subst hK
  exact call_dictP hc
end
def kvN (l : List LR) : List (LR × V) := l.map fun x => (x, V.bl true)
theorem kvN_val (l : List LR) (x : LR) : valV (kvN l) x = if x ∈ l then some (V.bl true) else none := by
  induction l with
  | nil => rfl
  | cons y l ih =>
    by_cases e : y = x
    · subst e
      rw [if_pos List.mem_cons_self]
      exact valV_pos rfl
    · have h : valV (kvN (y :: l)) x = valV (kvN l) x := valV_neg e
      rw [h, ih]
      by_cases m : x ∈ l
      · rw [if_pos m, if_pos (List.mem_cons_of_mem _ m)]
      · rw [if_neg m, if_neg fun z => m ((List.mem_cons.mp z).resolve_left fun q => e q.symm)]
def putN (l : List LR) (x : LR) : List LR := if x ∈ l then l else l ++ [x]
def mergeNR (l m : List LR) : List LR := m.foldl putN l
theorem kvN_put (l : List LR) (x : LR) : putK (kvN l) x (V.bl true) = kvN (putN l x) := by
  unfold putN
  by_cases h : x ∈ l
  · rw [if_pos h]
    unfold putK
    have e : ((kvN l).any fun kv => decide (kv.1 = x)) = true := by
      rw [valV_any, kvN_val, if_pos h]
      rfl
    rw [if_pos e]
    have : (kvN l).map (fun kv => if kv.1 = x then (kv.1, V.bl true) else kv) = (kvN l).map id := List.map_congr_left fun kv hkv => by
      obtain ⟨y, _, rfl⟩ := List.mem_map.mp hkv
      show (if y = x then (y, V.bl true) else (y, V.bl true)) = (y, V.bl true)
      split <;> rfl
    rw [this, List.map_id]
  · rw [if_neg h]
    have e : valV (kvN l) x = none := by rw [kvN_val, if_neg h]
    rw [putK_new _ e]
    unfold kvN
    rw [List.map_append]
    rfl
theorem putN_mem {l : List LR} {x y : LR} : y ∈ putN l x ↔ y ∈ l ∨ y = x := by
  unfold putN
  by_cases h : x ∈ l
  · rw [if_pos h]
    exact ⟨.inl, fun z => z.elim id fun e => e ▸ h⟩
  · rw [if_neg h, List.mem_append, List.mem_singleton]
theorem putN_nodup {l : List LR} {x : LR} (h : l.Nodup) : (putN l x).Nodup := by
  unfold putN
  by_cases q : x ∈ l
  · rw [if_pos q]
    exact h
  · rw [if_neg q]
    exact nd_snoc h q
theorem mergeNR_mem {m : List LR} {y : LR} : ∀ {l : List LR}, y ∈ mergeNR l m ↔ y ∈ l ∨ y ∈ m := by
  induction m with
  | nil => intro l; show y ∈ l ↔ _; simp
  | cons x m ih =>
    intro l
    show y ∈ mergeNR (putN l x) m ↔ _
    rw [ih, putN_mem, List.mem_cons, or_assoc]
theorem mergeNR_nodup {m : List LR} : ∀ {l : List LR}, l.Nodup → (mergeNR l m).Nodup := by
  induction m with
  | nil => intro l h; exact h
  | cons x m ih => intro l h; exact ih (putN_nodup h)
theorem mergeNR_snoc (l m : List LR) (x : LR) : mergeNR l (m ++ [x]) = putN (mergeNR l m) x := by
  unfold mergeNR
  rw [List.foldl_append]
  rfl
def GoodN (UL l : List LR) : Prop := l.Nodup ∧ ∀ x ∈ l, x ∈ UL
theorem GoodN.len {UL l : List LR} (h : GoodN UL l) : l.length ≤ UL.length := nd_len h.1 h.2
theorem GoodN.put {UL l : List LR} {x : LR} (h : GoodN UL l) (hx : x ∈ UL) : GoodN UL (putN l x) := ⟨putN_nodup h.1, fun y hy => (putN_mem.mp hy).elim (h.2 y) fun e => e ▸ hx⟩
theorem GoodN.merge {UL l m : List LR} (h : GoodN UL l) (g : ∀ x ∈ m, x ∈ UL) : GoodN UL (mergeNR l m) := ⟨mergeNR_nodup h.1, fun y hy => (mergeNR_mem.mp hy).elim (h.2 y) (g y)⟩
structure NetA where
  p : Addr
  nl : Addr
  su : Addr
  way : Addr
  ns : List Str
  ss : List Str
  tb : Str → Addr
  inn : Str → Str → Addr
structure NMsg where
  m : Msg
  kd : Str → Addr
  kl : Str → List LR
structure NetM where
  N : Str → Str → List LR
  ms : List NMsg
  sent : Nat
def NetA.W (A : NetA) : Addr → Prop := fun b => b = A.p ∨ b = A.way ∨ ∃ i ∈ A.ns, ∃ j ∈ A.ns, b = A.inn i j
def NetA.Fix (A : NetA) (ms : List NMsg) : Addr → Prop := fun b => b = A.su ∨ (∃ i ∈ A.ns, b = A.tb i) ∨ ∃ g ∈ ms, b = g.m.kept ∨ ∃ j ∈ A.ns, b = g.kd j
def NetA.FP (A : NetA) (m : NetM) : Addr → Prop := fun b => A.W b ∨ A.Fix m.ms b
structure NetA.Ok (A : NetA) (UL : List LR) : Prop where
  ns : placesOk A.ns
  ss : A.ss.Perm A.ns
  so : sortedS A.ss = true
  u : UL.length ≤ 1000
  inj : ∀ i ∈ A.ns, ∀ j ∈ A.ns, ∀ i' ∈ A.ns, ∀ j' ∈ A.ns, A.inn i j = A.inn i' j' → i = i' ∧ j = j'
  wi : ∀ i ∈ A.ns, ∀ j ∈ A.ns, A.inn i j ≠ A.way
  pi : ∀ i ∈ A.ns, ∀ j ∈ A.ns, A.inn i j ≠ A.p
  pw : A.p ≠ A.way
  sw : ¬ A.W A.su
  tw : ∀ i ∈ A.ns, ¬ A.W (A.tb i)
structure NMsg.At (P : Program) (w : World) (UL : List LR) (H : Hp) (A : NetA) (sent : Nat) (g : NMsg) : Prop where
  m : g.m.At H
  kept : H g.m.kept = some (.dK (tblD A.ss g.kd))
  kw : ¬ A.W g.m.kept
  fr : g.m.fr ∈ A.ns
  to : g.m.to ∈ A.ns
  hi : g.m.n ≤ sent
  kd : ∀ j ∈ A.ns, NdAt P w H (g.kd j) lrDt (kvN (g.kl j))
  dw : ∀ j ∈ A.ns, ¬ A.W (g.kd j)
  good : ∀ j ∈ A.ns, GoodN UL (g.kl j)
structure NetAt (P : Program) (w : World) (UL : List LR) (H : Hp) (A : NetA) (m : NetM) : Prop where
  op : H A.p = some (.dK (dd_net (.ref A.nl) (.ref A.su) (.int m.sent) (.ref A.way)))
  nl : H A.nl = some (.lst (A.ss.map V.str))
  su : H A.su = some (.dK (tblD A.ns A.tb))
  tb : ∀ i ∈ A.ns, H (A.tb i) = some (.dK (tblD A.ns (A.inn i)))
  inn : ∀ i ∈ A.ns, ∀ j ∈ A.ns, NdAt P w H (A.inn i j) lrDt (kvN (m.N i j))
  good : ∀ i ∈ A.ns, ∀ j ∈ A.ns, GoodN UL (m.N i j)
  way : H A.way = some (.dK (mDict (m.ms.map (·.m))))
  ms : ∀ g ∈ m.ms, g.At P w UL H A m.sent
  ml : m.ms.length ≤ m.sent
theorem NdAt.occ {P : Program} {w : World} {H : Hp} {a : Addr} {α : Type} {f : α → Dt} {l : List (α × V)} (h : NdAt P w H a f l) : ∃ xs, H a = some (.ext (NdRaw P w a xs)) := ⟨h.choose, h.choose_spec.1⟩
section
variable {P : Program} {w : World} {UL : List LR} {H H' : Hp} {A : NetA} {m : NetM} {S : Addr → Prop}
theorem NMsg.At.keep {g : NMsg} {sent : Nat} (t : Tk H H') (hk : ∀ o, H g.m.kept = some o → H' g.m.kept = some o) (hd : ∀ j ∈ A.ns, ∀ o, H (g.kd j) = some o → H' (g.kd j) = some o) (h : g.At P w UL H A sent) : g.At P w UL H' A sent :=
  ⟨t _ _ h.m, hk _ h.kept, h.kw, h.fr, h.to, h.hi, fun j hj => by
    obtain ⟨xs, e, r⟩ := h.kd j hj
    exact ⟨xs, hd j hj _ e, NE.keeps t r⟩, h.dw, h.good⟩
theorem NetAt.but (b : But S H H') (hS : ∀ b, S b → ¬ A.FP m b) (hn : ∀ b, S b → (∀ xs, H b ≠ some (.tup xs)) ∧ ∀ xs, H b ≠ some (.lst xs)) (h : NetAt P w UL H A m) : NetAt P w UL H' A m := by
  have t : Tk H H' := but_tk b fun x hx => (hn x hx).1
  have k : ∀ x, A.FP m x → ¬ S x := fun x hx z => hS x z hx
  exact ⟨b _ _ h.op (k _ (.inl (.inl rfl))), b _ _ h.nl fun z => (hn _ z).2 _ h.nl, b _ _ h.su (k _ (.inr (.inl rfl))), fun i hi => b _ _ (h.tb i hi) (k _ (.inr (.inr (.inl ⟨i, hi, rfl⟩)))),
    fun i hi j hj => (h.inn i hi j hj).but b (k _ (.inl (.inr (.inr ⟨i, hi, j, hj, rfl⟩)))) t, h.good, b _ _ h.way (k _ (.inl (.inr (.inl rfl)))),
    fun g hg => (h.ms g hg).keep t (fun o e => b _ _ e (k _ (.inr (.inr (.inr ⟨g, hg, .inl rfl⟩))))) fun j hj o e => b _ _ e (k _ (.inr (.inr (.inr ⟨g, hg, .inr ⟨j, hj, rfl⟩⟩)))), h.ml⟩
theorem NetAt.same (s : Same H H') (h : NetAt P w UL H A m) : NetAt P w UL H' A m := h.but (S := fun _ => False) (but_same s) (fun _ z => z.elim) fun _ z => z.elim
theorem NetAt.wk (h : NetAt P w UL H A m) {b : Addr} (q : A.W b) : (∃ kv, H b = some (.dK kv)) ∨ ∃ xs, H b = some (.ext (NdRaw P w b xs)) := by
  rcases q with rfl | rfl | ⟨i, hi, j, hj, rfl⟩
  · exact .inl ⟨_, h.op⟩
  · exact .inl ⟨_, h.way⟩
  · exact .inr (h.inn i hi j hj).occ
theorem NetAt.nk (h : NetAt P w UL H A m) {b : Addr} (q : A.W b) : (∀ xs, H b ≠ some (.tup xs)) ∧ (∀ xs, H b ≠ some (.lst xs)) ∧ ∀ C dx fs, H b ≠ some (.ins C dx fs) := by
  rcases h.wk q with ⟨kv, z⟩ | ⟨xs, z⟩ <;> refine ⟨fun _ e => ?_, fun _ e => ?_, fun _ _ _ e => ?_⟩ <;> rw [z] at e <;> cases e
theorem NetAt.occ (h : NetAt P w UL H A m) {b : Addr} (q : A.FP m b) : H b ≠ none := by
  intro e
  rcases q with (z | z | ⟨i, hi, j, hj, z⟩) | z | ⟨i, hi, z⟩ | ⟨g, hg, z | ⟨j, hj, z⟩⟩ <;> rw [z] at e
  · rw [h.op] at e
    cases e
  · rw [h.way] at e
    cases e
  · obtain ⟨xs, o⟩ := (h.inn i hi j hj).occ
    rw [o] at e
    cases e
  · rw [h.su] at e
    cases e
  · rw [h.tb i hi] at e
    cases e
  · rw [(h.ms g hg).kept] at e
    cases e
  · obtain ⟨xs, o⟩ := ((h.ms g hg).kd j hj).occ
    rw [o] at e
    cases e
theorem NetAt.tk (h : NetAt P w UL H A m) (b : But A.W H H') : Tk H H' := but_tk b fun x hx => (h.nk hx).1
theorem NetAt.step {N' : Str → Str → List LR} {sent' : Nat} {ms' : List NMsg} (ok : A.Ok UL) (b : But A.W H H') (h : NetAt P w UL H A m)
    (op : H' A.p = some (.dK (dd_net (.ref A.nl) (.ref A.su) (.int sent') (.ref A.way)))) (inn : ∀ i ∈ A.ns, ∀ j ∈ A.ns, NdAt P w H' (A.inn i j) lrDt (kvN (N' i j))) (good : ∀ i ∈ A.ns, ∀ j ∈ A.ns, GoodN UL (N' i j))
    (way : H' A.way = some (.dK (mDict (ms'.map (·.m))))) (ms : ∀ g ∈ ms', g ∈ m.ms ∨ g.At P w UL H' A sent') (hs : m.sent ≤ sent') (ml : ms'.length ≤ sent') : NetAt P w UL H' A ⟨N', ms', sent'⟩ :=
  ⟨op, b _ _ h.nl fun z => (h.nk z).2.1 _ h.nl, b _ _ h.su ok.sw, fun i hi => b _ _ (h.tb i hi) (ok.tw i hi), inn, good, way, fun g hg => by
    rcases ms g hg with hg | hg
    · have q := h.ms g hg
      have q2 : g.At P w UL H' A m.sent := q.keep (h.tk b) (fun o e => b _ _ e q.kw) fun j hj o e => b _ _ e (q.dw j hj)
      exact ⟨q2.m, q2.kept, q2.kw, q2.fr, q2.to, by have q3 : g.m.n ≤ (m.sent : Int) := q2.hi; show g.m.n ≤ (sent' : Int); omega, q2.kd, q2.dw, q2.good⟩
    · exact hg, ml⟩
end
def setN (N : Str → Str → List LR) (i j : Str) (l : List LR) : Str → Str → List LR := fun i' j' => if i' = i ∧ j' = j then l else N i' j'
theorem NetAt.congr {P : Program} {w : World} {UL : List LR} {H : Hp} {A : NetA} {N N' : Str → Str → List LR} {ms : List NMsg} {sent : Nat} (h : NetAt P w UL H A ⟨N, ms, sent⟩) (e : ∀ i ∈ A.ns, ∀ j ∈ A.ns, N i j = N' i j) : NetAt P w UL H A ⟨N', ms, sent⟩ :=
  ⟨h.op, h.nl, h.su, h.tb, fun i hi j hj => by show NdAt P w H _ lrDt (kvN (N' i j)); rw [← e i hi j hj]; exact h.inn i hi j hj, fun i hi j hj => by show GoodN UL (N' i j); rw [← e i hi j hj]; exact h.good i hi j hj, h.way, h.ms, h.ml⟩
theorem NetAt.put {P : Program} {w : World} {UL : List LR} {H : Hp} {A : NetA} {m : NetM} {i j : Str} {l : List LR} {o : HO} (ok : A.Ok UL) (h : NetAt P w UL H A m) (hi : i ∈ A.ns) (hj : j ∈ A.ns) (n : NdAt P w (upd H (A.inn i j) o) (A.inn i j) lrDt (kvN l)) (g : GoodN UL l) :
    NetAt P w UL (upd H (A.inn i j) o) A ⟨setN m.N i j l, m.ms, m.sent⟩ ∧ But A.W H (upd H (A.inn i j) o) := by
  have b : But A.W H (upd H (A.inn i j) o) := but_mut (.inr (.inr ⟨i, hi, j, hj, rfl⟩))
  refine ⟨h.step ok b (by rw [upd_ne (ok.pi i hi j hj).symm]; exact h.op) (fun i' hi' j' hj' => ?_) (fun i' hi' j' hj' => ?_) (by rw [upd_ne (ok.wi i hi j hj).symm]; exact h.way) (fun g hg => .inl hg) (Nat.le_refl _) h.ml, b⟩
  · by_cases e : i' = i ∧ j' = j
    · obtain ⟨rfl, rfl⟩ := e
      unfold setN
      rw [if_pos ⟨rfl, rfl⟩]
      exact n
    · unfold setN
      rw [if_neg e]
      exact (h.inn i' hi' j' hj').keep (h.tk b) (upd_ne fun z => e (ok.inj _ hi' _ hj' _ hi _ hj z))
  · unfold setN
    split
    · exact g
    · exact h.good i' hi' j' hj'
end Lv
set_option maxHeartbeats 4000000
namespace Lv
open PySem PySem.Spec PyProof.Rows L2
theorem mergeK_app (kvs : List (Key × V)) (m : List (Key × V)) (p : Key × V) : mergeK kvs (m ++ [p]) = putK (mergeK kvs m) p.1 p.2 := by
  unfold mergeK
  rw [List.foldl_append]
  rfl
theorem nodup_snoc_list {α : Type} {l : List α} {x : α} (h : (l ++ [x]).Nodup) : l.Nodup ∧ x ∉ l := by
  have h2 := List.nodup_append.mp h
  exact ⟨h2.1, fun hx => h2.2.2 x hx x List.mem_cons_self rfl⟩
theorem rev_ind {α : Type} {C : List α → Prop} (h0 : C []) (hs : ∀ l x, C l → C (l ++ [x])) : ∀ l, C l := by
  have key : ∀ n, ∀ l : List α, l.length = n → C l := by
    intro n
    induction n with
    | zero =>
      intro l hl
      rw [List.length_eq_zero_iff.mp hl]
      exact h0
    | succ n ih =>
      intro l hl
      have hne : l ≠ [] := fun z => by rw [z] at hl; cases hl
      have e := List.dropLast_concat_getLast hne
      rw [← e]
      exact hs _ _ (ih _ (by rw [List.length_dropLast, hl]; rfl))
  intro l
  exact key _ l rfl
theorem merge_strs (f : Str → V) : ∀ zs : List Str, zs.Nodup → mergeK [] (zs.map fun z => ((Sum.inr z : Key), f z)) = zs.map fun z => ((Sum.inr z : Key), f z) := by
  refine rev_ind (fun _ => rfl) fun zs z ih hz => ?_
  obtain ⟨h1, h2⟩ := nodup_snoc_list hz
  rw [List.map_append, List.map_cons, List.map_nil, mergeK_app, ih h1, putK_map h2, List.map_append]
  rfl
theorem paired_mem {α β : Type} {F G : α → β → Prop} : ∀ {l : List α} {m : List β}, Paired F l m → (∀ a b, b ∈ m → F a b → G a b) → Paired G l m
  | _, _, .nil, _ => .nil
  | _, _, .cons h t, k => .cons (k _ _ List.mem_cons_self h) (paired_mem t fun a b hb f => k a b (List.mem_cons_of_mem _ hb) f)
theorem paired_mapR {α β γ : Type} {F : α → β → Prop} {G : α → γ → Prop} {f : β → γ} : ∀ {l : List α} {m : List β}, Paired F l m → (∀ a b, F a b → G a (f b)) → Paired G l (m.map f)
  | _, _, .nil, _ => .nil
  | _, _, .cons h t, k => .cons (k _ _ h) (paired_mapR t k)
theorem paired_snoc {α β : Type} {R : α → β → Prop} {l : List α} {m : List β} {x : α} {y : β} (h : Paired R l m) (hr : R x y) : Paired R (l ++ [x]) (m ++ [y]) := Paired.snoc h hr
section
variable {P : Program} {w : World} {K : PySem.W.Frag} {mg : Str → Option Value} {base : Heap} {UL : List LR}
def sp_law_net (P : Program) (w : World) : Sp := sp1 fun v H Q => ∃ (UL : List LR) (l : Addr) (ns : List Str), v = .ref l ∧ H l = some (.lst (ns.map V.str)) ∧ placesOk ns ∧ UL.length ≤ 1000 ∧
  ∀ (H' : Hp) (A : NetA), Same H H' → A.ns = ns → A.Ok UL → NetAt P w UL H' A ⟨fun _ _ => [], [], 0⟩ → (∀ b, A.FP ⟨fun _ _ => [], [], 0⟩ b → H b = none) → Q (.ref A.p) H'
abbrev N__law_net : List Str := ["names", "sure", "one", "other"]
theorem sc__law_net : FnScope N__law_net ["names"] (defScope s__law_net) := ⟨rfl, rfl, rfl, by decide +kernel, rfl, by decide +kernel, by decide +kernel⟩
theorem ok__law_net (T : Txt K mg) : CallOk P w K mg base 1 "_law_net" ["names"] [] (sp_law_net P w) := by
  refine call_ok T 86 T.g__law_net sc__law_net (fun vs H Q E h => ?_) (fun f cdv A outer s H vs Q E hr h => ?_) (fun _ _ _ _ _ _ us hl => match us, hl with | [_], _ => rfl)
  · obtain ⟨x0, rfl, _⟩ := h
    rfl
  · have nd := sc__law_net.nd
    have hu := hu_of hr
    have hu64 := hu64_of hr
    obtain ⟨x0, rfl, h⟩ := h
    refine ⟨_, (pss_cons (ps_set (i := 1) nd rfl (Or.inl rfl) pe_dnewK) (pss_cons (ps_for PassesOwn.never rfl (pi_list (pv 0)) (pg_name (i := 2) nd rfl (Or.inl rfl)) (pss_one (ps_dput hu (pv 1) (pv 2) (pe_callTy (call_dictPK (K := K)) (by rfl) T.b_dict boot_dict (pa_cons (pe_lc (own := [("other", 3)]) (g := (gName 3)) (tt := tYes) rfl nd (pi_list (pv 0)) (blkOk_by (own := [("other", 3)]) (N := N__law_net) (sc := defScope s__law_net) (by decide +kernel)) (fun _ _ _ _ _ => (pg_name (i := 3) nd rfl (Or.inl rfl))) (fun _ _ _ _ _ => pts_nil) (fun _ _ _ _ _ => (pe_tup (pa_cons (pv 3) (pa_cons (pe_dnewN (P := P) (w := w)) pa_nil))))) pa_nil)) rfl))) (pss_one (ps_ret (pe_disp (pps_cons pe_str (pe_callB (sortedSK (K := K)) (by rfl) T.b_sorted boot_sorted (pa_cons (pv 0) pa_nil)) (pps_cons pe_str (pv 1) (pps_cons pe_str pe_int (pps_cons pe_str pe_dnewK pps_nil)))) (by rfl) (by rfl) (fun z => by cases z) (by decide)))))), ?_⟩
    obtain ⟨UL, l, ns, rfl, el, ok, hU, q⟩ := h
    have nz := ok.1
    have l8 := ok.2.2.1
    have z9 : (9 : Nat) < sizeLine := by decide
    refine fun S hS => ?_
    have s1 := same_new (o := .dK []) hS
    have eS1 : (upd H S (.dK [])) S = some (.dK []) := upd_same
    generalize upd H S (.dK []) = H1 at s1 eS1 ⊢
    have lS : ∀ {b : Addr} {o : HO}, H b = some o → b ≠ S := fun e => ne_of_none e hS
    refine ⟨_, rfl, l, rfl, ⟨_, SqL.of (s1 _ _ el)⟩, for_it walk_list (fun i σ H2 => ∃ (v2 : Option V) (g : Str → Addr) (h : Str → Str → Addr), σ = [some (.ref l), some (.ref S), v2, none] ∧ Same H H2 ∧ H2 S = some (.dK (tblD (ns.take i) g)) ∧ (∀ z ∈ ns.take i, H2 (g z) = some (.dK (tblD ns (h z))) ∧ H (g z) = none ∧ g z ≠ S) ∧
      (∀ z ∈ ns.take i, ∀ y ∈ ns, H2 (h z y) = some (.ext (NdRaw P w (h z y) [])) ∧ H (h z y) = none ∧ h z y ≠ S) ∧ ∀ z ∈ ns.take i, ∀ y ∈ ns, ∀ z' ∈ ns.take i, ∀ y' ∈ ns, h z y = h z' y' → z = z' ∧ y = y')
      ⟨_, fun _ => 0, fun _ _ => 0, rfl, s1, eS1, by simp, by simp, by simp⟩ (fun i σ H2 _ ⟨_, _, _, _, s, _⟩ => SqL.of (s _ _ el)) ?_ ?_⟩
    · rintro i x σ H2 H3 hi ⟨v2, g, h, rfl, s2, eS2, hg, hh, hinj⟩ ⟨rfl, hx⟩
      obtain ⟨z, hz, rfl⟩ := getMap hx
      have hzt := nodup_take nz hz
      rw [List.length_map] at hi
      refine ⟨_, rfl, l, rfl, ⟨_, SqL.of (s2 _ _ el)⟩, fun D hD => lc_rel walk_list (fun j m H' => ∃ (h' : Str → Addr) (ps : List Addr), m = ps.map V.ref ∧ Paired (fun p y => H' p = some (.tup [.str y, .ref (h' y)])) ps (ns.take j) ∧ (∀ y ∈ ns.take j, H' (h' y) = some (.ext (NdRaw P w (h' y) [])) ∧ H3 (h' y) = none ∧ h' y ≠ D) ∧ ∀ y ∈ ns.take j, ∀ y' ∈ ns.take j, h' y = h' y' → y = y') hD (fun H' s => SqL.of (s _ _ (s2 _ _ el)))
        ⟨fun _ => 0, [], rfl, .nil, by simp, by simp⟩ ?_ ?_⟩
      · rintro j v m H5 H6 hj hm s' e5 ⟨h', ps, rfl, hps, hh', hinj'⟩ ⟨rfl, hyv⟩
        obtain ⟨y, hy, rfl⟩ := getMap hyv
        have hyt := nodup_take nz hy
        rw [List.length_map] at hj
        refine ⟨rfl, _, rfl, fun d hd => ⟨by show 2 ≤ sizeLine; decide, fun t ht => ?_⟩⟩
        have q1 := same_new (o := .ext (NdRaw P w d [])) hd
        have q2 := same_new (o := .tup [.str y, .ref d]) ht
        have qs := q1.trans q2
        have dD : d ≠ D := fun z => by rw [z, e5] at hd; cases hd
        have tD : t ≠ D := fun z => by rw [z, q1 _ _ e5] at ht; cases ht
        have td : t ≠ d := fun z => by rw [z, upd_same] at ht; cases ht
        have old : ∀ y3, y3 ∈ ns.take (j + 1) → y3 ≠ y → setA h' y d y3 = h' y3 ∧ y3 ∈ ns.take j := fun y3 h3 n => ⟨setA_ne n, ((mem_take_succ hy).mp h3).resolve_right n⟩
        refine lc_take hD (by omega) hm (s'.trans qs) (qs _ _ e5) ⟨setA h' y d, ps ++ [t], by simp, ?_, fun y1 hy1 => ?_, fun y1 hy1 y2 hy2 he => ?_⟩
        · rw [take_snoc hy]
          refine paired_snoc (paired_mem hps fun p y1 hy1 ep => ?_) ?_
          · have n : y1 ≠ y := fun e => hyt (e ▸ hy1)
            rw [setA_ne n, upd_ne fun z => by rw [z, e5] at ep; cases ep]
            exact qs _ _ ep
          · rw [setA_same, upd_ne tD]
            exact upd_same
        · by_cases ey : y1 = y
          · subst ey
            rw [setA_same]
            exact ⟨by rw [upd_ne dD]; exact q2 _ _ upd_same, same_free s' hd, dD⟩
          · obtain ⟨g1, m1⟩ := old y1 hy1 ey
            rw [g1]
            obtain ⟨c1, c2, c3⟩ := hh' y1 m1
            exact ⟨by rw [upd_ne c3]; exact qs _ _ c1, c2, c3⟩
        · by_cases e1 : y1 = y
          · by_cases e2 : y2 = y
            · rw [e1, e2]
            · obtain ⟨g2, m2⟩ := old y2 hy2 e2
              rw [e1, setA_same, g2] at he
              have c := (hh' y2 m2).1
              rw [← he, hd] at c
              cases c
          · obtain ⟨g1, m1⟩ := old y1 hy1 e1
            by_cases e2 : y2 = y
            · rw [e2, setA_same, g1] at he
              have c := (hh' y1 m1).1
              rw [he, hd] at c
              cases c
            · obtain ⟨g2, m2⟩ := old y2 hy2 e2
              rw [g1, g2] at he
              exact hinj' _ m1 _ m2 he
      · rintro m H5 hm s' e5 ⟨h', ps, rfl, hps, hh', hinj'⟩
        rw [List.length_map, List.take_length] at hps hh' hinj'
        have eS5 := s' _ _ eS2
        refine ⟨D, ps, tblD ns h', rfl, SqL.of e5, paired_mapR hps fun p y e => SqT.of e, fun d hd => ?_⟩
        rw [show mergeK [] (tblD ns h') = tblD ns h' from merge_strs (fun z => V.ref (h' z)) ns nz]
        have q1 := same_new (o := .dK (tblD ns h')) hd
        have s5 := s'.trans q1
        have eS6 := q1 _ _ eS5
        refine ⟨_, rfl, _, rfl, S, _, rfl, DPut.k (k := Sum.inr z) eS6 ?_, ?_⟩
        · unfold tblD
          rw [List.length_map, List.length_take]
          omega
        have dS : d ≠ S := fun z => by rw [z, eS5] at hd; cases hd
        have oldz : ∀ z1, z1 ∈ ns.take (i + 1) → z1 ≠ z → z1 ∈ ns.take i := fun z1 h1 n => ((mem_take_succ hz).mp h1).resolve_right n
        refine ⟨_, setA g z d, setA h z h', rfl, same_upd (s2.trans s5) hS, ?_, fun z1 hz1 => ?_, fun z1 hz1 y hy => ?_, fun z1 hz1 y1 hy1 z2 hz2 y2 hy2 he => ?_⟩
        · rw [upd_same, tblD_put hzt, take_snoc hz]
        · by_cases ez : z1 = z
          · subst ez
            rw [setA_same, setA_same]
            exact ⟨by rw [upd_ne dS]; exact upd_same, same_free (s2.trans s') hd, dS⟩
          · rw [setA_ne ez, setA_ne ez]
            obtain ⟨c1, c2, c3⟩ := hg z1 (oldz z1 hz1 ez)
            exact ⟨by rw [upd_ne c3]; exact s5 _ _ c1, c2, c3⟩
        · by_cases ez : z1 = z
          · rw [ez, setA_same]
            obtain ⟨c1, c2, c3⟩ := hh' y hy
            have nS : h' y ≠ S := fun z => by rw [z, eS2] at c2; cases c2
            exact ⟨by rw [upd_ne nS]; exact q1 _ _ c1, same_free s2 c2, nS⟩
          · rw [setA_ne ez]
            obtain ⟨c1, c2, c3⟩ := hh z1 (oldz z1 hz1 ez) y hy
            exact ⟨by rw [upd_ne c3]; exact s5 _ _ c1, c2, c3⟩
        · have he : setA h z h' z1 y1 = setA h z h' z2 y2 := he
          have cross : ∀ z3 y3 y4, z3 ∈ ns.take (i + 1) → z3 ≠ z → y3 ∈ ns → y4 ∈ ns → h z3 y3 ≠ h' y4 := fun z3 y3 y4 m3 n3 my3 my4 e => by
            have c := (hh z3 (oldz z3 m3 n3) y3 my3).1
            rw [e, (hh' y4 my4).2.1] at c
            cases c
          by_cases e1 : z1 = z
          · by_cases e2 : z2 = z
            · rw [e1, e2, setA_same] at he
              exact ⟨e1.trans e2.symm, hinj' _ hy1 _ hy2 he⟩
            · rw [e1, setA_same, setA_ne e2] at he
              exact absurd he.symm (cross z2 y2 y1 hz2 e2 hy2 hy1)
          · by_cases e2 : z2 = z
            · rw [setA_ne e1, e2, setA_same] at he
              exact absurd he (cross z1 y1 y2 hz1 e1 hy1 hy2)
            · rw [setA_ne e1, setA_ne e2] at he
              exact hinj _ (oldz z1 hz1 e1) _ hy1 _ (oldz z2 hz2 e2) _ hy2 he
    · rintro σ H2 ⟨v2, g, h, rfl, s2, eS2, hg, hh, hinj⟩
      rw [List.length_map, List.take_length] at hg hh hinj eS2
      refine fun p hp => ⟨_, rfl, l, ns, rfl, SqL.of (same_new hp _ _ (s2 _ _ el)), by omega, fun ys r hperm hsort hr => ⟨_, rfl, fun y hy => ?_⟩⟩
      have q1 := same_new (o := .dK []) hp
      have q2 := same_new (o := .lst (ys.map V.str)) hr
      have q3 := same_new (o := .dK []) hy
      have q23 := q2.trans q3
      have q13 := q1.trans q23
      have ep := q23 _ _ (upd_same (a := p) (o := .dK []) (H := H2))
      refine ⟨ep, dd_net (.ref r) (.ref S) (.int 0) (.ref y), rfl, by show 4 ≤ 15; decide, ?_⟩
      rw [dd_net_mk]
      have py : p ≠ y := fun z => by rw [← z, q2 _ _ upd_same] at hy; cases hy
      have rp : r ≠ p := fun z => by rw [z, upd_same] at hr; cases hr
      have p0 : H p = none := same_free s2 hp
      have y2 : H2 y = none := same_free (q1.trans q2) hy
      have at_ : ∀ {b : Addr} {o : HO}, H2 b = some o → ∀ u, upd (upd (upd (upd H2 p (.dK [])) r (.lst (ys.map V.str))) y (.dK [])) p u b = some o := fun e u => by
        rw [upd_ne (ne_of_none e hp)]
        exact q13 _ _ e
      have Sp : S ≠ p := ne_of_none eS2 hp
      have Sy : S ≠ y := ne_of_none eS2 y2
      have gh : ∀ z ∈ ns, ∀ i ∈ ns, ∀ j ∈ ns, g z ≠ h i j := fun z hz i hi j hj e => by
        have c := (hg z hz).1
        rw [e, (hh i hi j hj).1] at c
        cases c
      refine q _ ⟨p, r, S, y, ns, ys, g, h⟩ (same_upd ((s2.trans q13)) p0) rfl ⟨ok, hperm, hsort, hU, hinj, fun i hi j hj => ne_of_none (hh i hi j hj).1 y2, fun i hi j hj => ne_of_none (hh i hi j hj).1 hp, py, ?_, fun i hi => ?_⟩
        ⟨upd_same, by show (upd _ p _) r = _; rw [upd_ne rp]; exact q3 _ _ upd_same, at_ eS2 _, fun i hi => at_ (hg i hi).1 _, fun i hi j hj => ⟨[], at_ (hh i hi j hj).1 _, .nil⟩, fun i hi j hj => ⟨List.nodup_nil, by simp⟩, by show (upd _ p _) y = _; rw [upd_ne py.symm]; exact upd_same, by simp, Nat.le_refl _⟩ ?_
      · rintro (z | z | ⟨i, hi, j, hj, z⟩)
        · exact Sp z
        · exact Sy z
        · exact (hh i hi j hj).2.2 z.symm
      · rintro (z | z | ⟨i2, hi2, j, hj, z⟩)
        · exact ne_of_none (hg i hi).1 hp z
        · exact ne_of_none (hg i hi).1 y2 z
        · exact gh i hi i2 hi2 j hj z
      · rintro b ((z | z | ⟨i, hi, j, hj, z⟩) | z | ⟨i, hi, z⟩ | ⟨g, hg, _⟩)
        · rw [z]; exact p0
        · rw [z]; exact same_free s2 y2
        · rw [z]; exact (hh i hi j hj).2.1
        · rw [z]; exact hS
        · rw [z]; exact (hg i hi).2.1
        · cases hg
end
end Lv
set_option maxHeartbeats 4000000
namespace Lv
open PySem PySem.Spec PyProof.Rows L2
inductive Deed where
  | write (z : Str) (x : LR)
  | send (a b : Str)
  | deliver (k : Int)
  | lose (k : Int)
def Deed.dt : Deed → Dt
  | .write z x => .tup [.str "write", .str z, lrDt x]
  | .send a b => .tup [.str "send", .str a, .str b]
  | .deliver k => .tup [.str "deliver", .int k]
  | .lose k => .tup [.str "lose", .int k]
def NetM.okD (ns : List Str) (UL : List LR) (m : NetM) : Deed → Prop
  | .write z x => z ∈ ns ∧ x ∈ UL
  | .send a b => a ∈ ns ∧ b ∈ ns
  | .deliver k => ∃ g, m.ms.find? (fun g => decide (g.m.n = k)) = some g
  | .lose k => ∃ g, m.ms.find? (fun g => decide (g.m.n = k)) = some g
def StepN (ns : List Str) (m m' : NetM) : Deed → Prop
  | .write z x => m' = ⟨setN m.N z z (putN (m.N z z) x), m.ms, m.sent⟩
  | .send a b => ∃ g : NMsg, m' = ⟨m.N, m.ms ++ [g], m.sent + 1⟩ ∧ g.m.n = m.sent + 1 ∧ g.m.fr = a ∧ g.m.to = b ∧ ∀ z ∈ ns, g.kl z = m.N a z
  | .deliver k => ∃ g N', m.ms.find? (fun g => decide (g.m.n = k)) = some g ∧ m' = ⟨N', m.ms, m.sent⟩ ∧ ∀ i ∈ ns, ∀ j ∈ ns, ∀ x, x ∈ N' i j ↔ x ∈ m.N i j ∨ (i = g.m.to ∧ (x ∈ g.kl j ∨ (j = g.m.to ∧ x ∈ g.kl g.m.fr)))
  | .lose k => m' = ⟨m.N, m.ms.filter fun g => decide (g.m.n ≠ k), m.sent⟩
theorem upd_comm {H : Hp} {a b : Addr} {o u : HO} (h : a ≠ b) : upd (upd H a o) b u = upd (upd H b u) a o := by
  funext c
  by_cases ca : c = a
  · subst ca
    rw [upd_ne h, upd_same, upd_same]
  · by_cases cb : c = b
    · subst cb
      rw [upd_same, upd_ne ca, upd_same]
    · rw [upd_ne cb, upd_ne ca, upd_ne ca, upd_ne cb]
theorem mergeN_app {α : Type} [DecidableEq α] (kvs m : List (α × V)) (p : α × V) : mergeN kvs (m ++ [p]) = putK (mergeN kvs m) p.1 p.2 := by
  unfold mergeN
  rw [List.foldl_append]
  rfl
theorem merge_kvN : ∀ l : List LR, mergeN [] (kvN l) = kvN (mergeNR [] l) := by
  refine rev_ind rfl fun l x ih => ?_
  have e : kvN (l ++ [x]) = kvN l ++ [(x, V.bl true)] := by
    unfold kvN
    rw [List.map_append]
    rfl
  rw [e, mergeN_app, ih, kvN_put, mergeNR_snoc]
theorem mergeNR_nil : ∀ l : List LR, l.Nodup → mergeNR [] l = l := by
  refine rev_ind (fun _ => rfl) fun l x ih hn => ?_
  obtain ⟨h1, h2⟩ := nodup_snoc_list hn
  rw [mergeNR_snoc, ih h1]
  unfold putN
  rw [if_neg h2]
theorem nway_val {ms : List NMsg} {n : Int} {g : NMsg} (h : ms.find? (fun g => decide (g.m.n = n)) = some g) : valV (mDict (ms.map (·.m))) (Sum.inl n : Key) = some (.ref g.m.t) := by
  rw [mDict_val, List.find?_map]
  have e : ((fun m : Msg => decide (m.n = n)) ∘ fun g : NMsg => g.m) = fun g : NMsg => decide (g.m.n = n) := rfl
  rw [e, h]
  rfl
theorem nway_drop (ms : List NMsg) (n : Int) : dropK (mDict (ms.map (·.m))) (Sum.inl n : Key) = mDict ((ms.filter fun g => decide (g.m.n ≠ n)).map (·.m)) := by
  unfold dropK mDict
  rw [List.map_map, List.map_map, List.filter_map]
  congr 1
  refine List.filter_congr fun g _ => ?_
  simp [Function.comp]
theorem setN_mem {N : Str → Str → List LR} {i j i' j' : Str} {x y : LR} : y ∈ setN N i j (putN (N i j) x) i' j' ↔ y ∈ N i' j' ∨ (i' = i ∧ j' = j ∧ y = x) := by
  unfold setN
  by_cases e : i' = i ∧ j' = j
  · rw [if_pos e, putN_mem, e.1, e.2]
    simp
  · rw [if_neg e]
    exact ⟨.inl, fun h => h.elim id fun q => absurd ⟨q.1, q.2.1⟩ e⟩
def RowPs (H : Hp) (ps : List Addr) (l : List LR) : Prop := Paired (fun p x => ∃ b, H p = some (.tup [.ref b, .bl true]) ∧ Tv H (lrDt x) (.ref b)) ps l
theorem RowPs.keep {H H' : Hp} {ps : List Addr} {l : List LR} (k : Tk H H') (h : RowPs H ps l) : RowPs H' ps l := Paired.mapP h fun _ _ ⟨b, e, t⟩ => ⟨b, k _ _ e, t.keep k⟩
theorem RowPs.kv {H : Hp} {ps : List Addr} {l : List LR} (h : RowPs H ps l) : Paired (fun p kv => ∃ b, H p = some (.tup [.ref b, kv.2]) ∧ Tv H (lrDt kv.1) (.ref b)) ps (kvN l) := paired_mapR h fun _ _ z => z
section
variable {P : Program} {w : World} {K : PySem.W.Frag} {mg : Str → Option Value} {base : Heap} {UL : List LR}
def sp_law_net_deed (P : Program) (w : World) : Sp := sp2 fun v x0 H Q => ∃ (UL : List LR) (A : NetA) (m : NetM) (d : Deed), v = .ref A.p ∧ A.Ok UL ∧ NetAt P w UL H A m ∧ Tv H d.dt x0 ∧ m.okD A.ns UL d ∧ m.sent ≤ 1000 ∧
  ∀ (H' : Hp) (m' : NetM), But A.W H H' → NetAt P w UL H' A m' → StepN A.ns m m' d → (∀ b, A.FP m' b → A.FP m b ∨ H b = none) → Q .non H'
abbrev N__law_net_deed : List Str := ["net", "deed", "sure", "kept", "place", "other", "told", "name", "row"]
theorem sc__law_net_deed : FnScope N__law_net_deed ["net", "deed"] (defScope s__law_net_deed) := ⟨rfl, rfl, rfl, by decide +kernel, rfl, by decide +kernel, by decide +kernel⟩
theorem ok__law_net_deed (T : Txt K mg) : CallOk P w K mg base 1 "_law_net_deed" ["net", "deed"] [] (sp_law_net_deed P w) := by
  refine call_ok T 87 T.g__law_net_deed sc__law_net_deed (fun vs H Q E h => ?_) (fun f cdv A outer s H vs Q E hr h => ?_) (fun _ _ _ _ _ _ us hl => match us, hl with | [_, _], _ => rfl)
  · obtain ⟨x0, x1, rfl, _⟩ := h
    rfl
  · have nd := sc__law_net_deed.nd
    have hu := hu_of hr
    have hu64 := hu64_of hr
    obtain ⟨x0, x1, rfl, h⟩ := h
    refine ⟨_, (pss_cons (ps_set (i := 2) nd rfl (Or.inr rfl) (pe_dget hu (pv 0) pe_str (fun _ _ => rfl))) (pss_cons (ps_if (pt_cmpR op_eq (pe_ix (ixT (K := K)) (pv 1) pe_int (fun _ _ => rfl)) pe_str (nomark _)) (pss_one (ps_nput (P := P) (w := w) hu64 (pe_dget hu (pe_dget hu (pv 2) (pe_ix (ixT (K := K)) (pv 1) pe_int (fun _ _ => rfl)) (fun _ _ => rfl)) (pe_ix (ixT (K := K)) (pv 1) pe_int (fun _ _ => rfl)) (fun _ _ => rfl)) (pe_ix (ixT (K := K)) (pv 1) pe_int (fun _ _ => rfl)) pe_bl rfl)) pss_nil) (pss_cons (ps_if (pt_cmpR op_eq (pe_ix (ixT (K := K)) (pv 1) pe_int (fun _ _ => rfl)) pe_str (nomark _)) (pss_cons (ps_dput hu (pv 0) pe_str (pe_op op_add (pe_dget hu (pv 0) pe_str (fun _ _ => rfl)) pe_int) rfl) (pss_cons (ps_set (i := 3) nd rfl (Or.inl rfl) (pe_callTy (call_dictPK (K := K)) (by rfl) T.b_dict boot_dict (pa_cons (pe_lc (own := [("other", 5)]) (g := (gName 5)) (tt := tYes) rfl nd (pi_list (pe_dget hu (pv 0) pe_str (fun _ _ => rfl))) (blkOk_by (own := [("other", 5)]) (N := N__law_net_deed) (sc := defScope s__law_net_deed) (by decide +kernel)) (fun _ _ _ _ _ => (pg_name (i := 5) nd rfl (Or.inl rfl))) (fun _ _ _ _ _ => pts_nil) (fun _ _ _ _ _ => (pe_tup (pa_cons (pv 5) (pa_cons (pe_callTy (call_dictN (P := P) (w := w) (hu := hu64)) (by rfl) T.b_dict boot_dict (pa_cons (pe_lock (pe_lc (own := [("row", 8)]) (g := (gName 8)) (tt := tYes) rfl nd (pi_keysN (P := P) (w := w) (pe_dget hu (pe_dget hu (pv 2) (pe_ix (ixT (K := K)) (pv 1) pe_int (fun _ _ => rfl)) (fun _ _ => rfl)) (pv 5) (fun _ _ => rfl))) (blkOk_in (own := [("row", 8)]) (N := N__law_net_deed) (sc := defScope s__law_net_deed) (by decide +kernel)) (fun _ _ _ _ _ => (pg_name (i := 8) nd rfl (Or.inl rfl))) (fun _ _ _ _ _ => pts_nil) (fun _ _ _ _ _ => (pe_tup (pa_cons (pv 8) (pa_cons pe_bl pa_nil)))))) pa_nil)) pa_nil))))) pa_nil))) (pss_one (ps_dput hu (pe_dget hu (pv 0) pe_str (fun _ _ => rfl)) (pe_dget hu (pv 0) pe_str (fun _ _ => rfl)) (pe_tup (pa_cons (pe_ix (ixT (K := K)) (pv 1) pe_int (fun _ _ => rfl)) (pa_cons (pe_ix (ixT (K := K)) (pv 1) pe_int (fun _ _ => rfl)) (pa_cons (pv 3) pa_nil)))) rfl)))) pss_nil) (pss_cons (ps_if (pt_cmpR op_eq (pe_ix (ixT (K := K)) (pv 1) pe_int (fun _ _ => rfl)) pe_str (nomark _)) (pss_cons (ps_asg (pe_dget hu (pe_dget hu (pv 0) pe_str (fun _ _ => rfl)) (pe_ix (ixT (K := K)) (pv 1) pe_int (fun _ _ => rfl)) (fun _ _ => rfl)) (pg_tup rfl (pgs_cons (pg_name (i := 4) nd rfl (Or.inl rfl)) (pgs_cons (pg_name (i := 5) nd rfl (Or.inl rfl)) (pgs_cons (pg_name (i := 6) nd rfl (Or.inl rfl)) pgs_nil))))) (pss_cons (ps_for PassesOwn.never rfl (pi_list (pe_dget hu (pv 0) pe_str (fun _ _ => rfl))) (pg_name (i := 7) nd rfl (Or.inl rfl)) (pss_one (ps_lock (ps_for PassesOwn.never rfl (pi_keysN (P := P) (w := w) (pe_dget hu (pv 6) (pv 7) (fun _ _ => rfl))) (pg_name (i := 8) nd rfl (Or.inl rfl)) (pss_one (ps_nput (P := P) (w := w) hu64 (pe_dget hu (pe_dget hu (pv 2) (pv 5) (fun _ _ => rfl)) (pv 7) (fun _ _ => rfl)) (pv 8) pe_bl rfl)))))) (pss_one (ps_lock (ps_for PassesOwn.never rfl (pi_keysN (P := P) (w := w) (pe_dget hu (pv 6) (pv 4) (fun _ _ => rfl))) (pg_name (i := 8) nd rfl (Or.inl rfl)) (pss_one (ps_nput (P := P) (w := w) hu64 (pe_dget hu (pe_dget hu (pv 2) (pv 5) (fun _ _ => rfl)) (pv 5) (fun _ _ => rfl)) (pv 8) pe_bl rfl))))))) pss_nil) (pss_one (ps_if (pt_cmpR op_eq (pe_ix (ixT (K := K)) (pv 1) pe_int (fun _ _ => rfl)) pe_str (nomark _)) (pss_one (ps_expr (pe_dpop1 (pe_dget hu (pv 0) pe_str (fun _ _ => rfl)) (pe_ix (ixT (K := K)) (pv 1) pe_int (fun _ _ => rfl)) ⟨rfl, rfl, rfl, rfl⟩))) pss_nil)))))), ?_⟩
    obtain ⟨UL, A1, m, d, rfl, ok, at0, td, okd, hm, q⟩ := h
    have z3 : 3 ≤ sizeLine := by decide
    have z2 : 2 ≤ sizeLine := by decide
    have g0 : ∀ {H : Hp} {v0 v1 v2 v3 : V}, H A1.p = some (.dK (dd_net v0 v1 v2 v3)) → DGet H A1.p (kV (Sum.inr "names")) (some v0) ∧ DGet H A1.p (kV (Sum.inr "sure")) (some v1) ∧ DGet H A1.p (kV (Sum.inr "sent")) (some v2) ∧ DGet H A1.p (kV (Sum.inr "way")) (some v3) := fun e =>
      ⟨dd_net_names .. ▸ DGet.k (k := Sum.inr "names") e, dd_net_sure .. ▸ DGet.k (k := Sum.inr "sure") e, dd_net_sent .. ▸ DGet.k (k := Sum.inr "sent") e, dd_net_way .. ▸ DGet.k (k := Sum.inr "way") e⟩
    refine ⟨_, rfl, A1.p, _, rfl, (g0 at0.op).2.1, ?_⟩
    cases d with
    | write z x =>
      obtain ⟨hz, hx⟩ := okd
      obtain ⟨t, xs, rfl, et, tvs⟩ := td
      obtain ⟨y, rfl, ty⟩ : ∃ y, xs = [.str "write", .str z, y] ∧ Tv H (lrDt x) y := by
        match xs, tvs with
        | [x1, x2, x3], ⟨h1, h2, h3, _⟩ => exact ⟨x3, by rw [show x1 = V.str "write" from h1, show x2 = .str z from h2], h3⟩
      obtain ⟨ty0, ys, rfl, ety, tys⟩ := id ty
      refine ⟨_, rfl, _, _, _, _, rfl, rfl, SqT.of et, atI_nat (j := 0) rfl, rfl, _, rfl, iteT ?_⟩
      have gN := (at0.good z hz z hz)
      refine ⟨_, rfl, _, rfl, _, _, _, _, rfl, rfl, SqT.of et, atI_nat (j := 1) rfl, A1.su, .ref (A1.tb z), rfl, tblD_val (g := A1.tb) hz ▸ DGet.k (k := Sum.inr z) at0.su, _, rfl, _, _, _, _, rfl, rfl, SqT.of et, atI_nat (j := 1) rfl, A1.tb z, .ref (A1.inn z z), rfl, tblD_val (g := A1.inn z) hz ▸ DGet.k (k := Sum.inr z) (at0.tb z hz), _, rfl, _, _, _, _, rfl, rfl, SqT.of et, atI_nat (j := 2) rfl, A1.inn z z, rfl, NPut.of kLR (at0.inn z hz z hz) ty ?_ fun o ho _ nd => ?_⟩
      · have := gN.len
        have hu := ok.u
        unfold kvN
        rw [List.length_map]
        exact Nat.lt_of_le_of_lt (Nat.le_trans this hu) (by decide)
      rw [kvN_put] at nd
      obtain ⟨p1, p2⟩ := at0.put ok hz hz nd (gN.put hx)
      have et2 := at0.tk p2 _ _ et
      refine ⟨_, rfl, _, _, _, _, rfl, rfl, SqT.of et2, atI_nat (j := 0) rfl, rfl, _, rfl, iteF ⟨_, rfl, _, _, _, _, rfl, rfl, SqT.of et2, atI_nat (j := 0) rfl, rfl, _, rfl, iteF ⟨_, rfl, _, _, _, _, rfl, rfl, SqT.of et2, atI_nat (j := 0) rfl, rfl, _, rfl, iteF ?_⟩⟩⟩
      exact q _ _ p2 p1 rfl fun b hb => .inl hb
    | lose k =>
      obtain ⟨g, hg⟩ := okd
      obtain ⟨t, xs, rfl, et, tvs⟩ := td
      obtain rfl : xs = [.str "lose", .int k] := by
        match xs, tvs with
        | [x1, x2], ⟨h1, h2, _⟩ => rw [show x1 = V.str "lose" from h1, show x2 = .int k from h2]
      refine ⟨_, rfl, _, _, _, _, rfl, rfl, SqT.of et, atI_nat (j := 0) rfl, rfl, _, rfl, iteF ⟨_, rfl, _, _, _, _, rfl, rfl, SqT.of et, atI_nat (j := 0) rfl, rfl, _, rfl, iteF ⟨_, rfl, _, _, _, _, rfl, rfl, SqT.of et, atI_nat (j := 0) rfl, rfl, _, rfl, iteF ⟨_, rfl, _, _, _, _, rfl, rfl, SqT.of et, atI_nat (j := 0) rfl, rfl, _, rfl, iteT ?_⟩⟩⟩⟩
      refine ⟨_, rfl, A1.p, _, rfl, (g0 at0.op).2.2.2, A1.way, rfl, .inl ⟨_, .inl at0.way⟩, _, rfl, _, _, _, _, rfl, rfl, SqT.of et, atI_nat (j := 1) rfl, _, Sum.inl k, _, at0.way, rfl, nway_val hg, ?_⟩
      rw [nway_drop]
      have b : But A1.W H (upd H A1.way (.dK (mDict ((m.ms.filter fun g => decide (g.m.n ≠ k)).map (·.m))))) := but_mut (.inr (.inl rfl))
      refine q _ _ b (at0.step ok b ?_ (fun i hi j hj => (at0.inn i hi j hj).keep (at0.tk b) (upd_ne (ok.wi i hi j hj))) at0.good upd_same (fun g hg => .inl (List.mem_filter.mp hg).1) (Nat.le_refl _) (Nat.le_trans (List.length_filter_le _ _) at0.ml)) rfl fun b hb => ?_
      · rw [upd_ne ok.pw]
        exact at0.op
      · rcases hb with hb | hb | hb | ⟨g, hg, hb⟩
        · exact .inl (.inl hb)
        · exact .inl (.inr (.inl hb))
        · exact .inl (.inr (.inr (.inl hb)))
        · exact .inl (.inr (.inr (.inr ⟨g, (List.mem_filter.mp hg).1, hb⟩)))
    | send a b =>
      obtain ⟨ha, hb⟩ := okd
      obtain ⟨t, xs, rfl, et, tvs⟩ := td
      obtain rfl : xs = [.str "send", .str a, .str b] := by
        match xs, tvs with
        | [x1, x2, x3], ⟨h1, h2, h3, _⟩ => rw [show x1 = V.str "send" from h1, show x2 = .str a from h2, show x3 = .str b from h3]
      refine ⟨_, rfl, _, _, _, _, rfl, rfl, SqT.of et, atI_nat (j := 0) rfl, rfl, _, rfl, iteF ⟨_, rfl, _, _, _, _, rfl, rfl, SqT.of et, atI_nat (j := 0) rfl, rfl, _, rfl, iteT ?_⟩⟩
      refine ⟨_, rfl, A1.p, _, rfl, (g0 at0.op).2.2.1, _, _, rfl, rfl, _, rfl, A1.p, _, rfl, DPut.k (k := Sum.inr "sent") at0.op (by show 4 < sizeLine; decide), ?_⟩
      rw [dd_net_put_sent]
      have b1 : But1 A1.p H (upd H A1.p (.dK (dd_net (.ref A1.nl) (.ref A1.su) (.int (m.sent + 1)) (.ref A1.way)))) := but_mut rfl
      have o1 : (upd H A1.p (.dK (dd_net (.ref A1.nl) (.ref A1.su) (.int (m.sent + 1)) (.ref A1.way)))) A1.p = some (.dK (dd_net (.ref A1.nl) (.ref A1.su) (.int (m.sent + 1)) (.ref A1.way))) := upd_same
      have w1 : ∀ b, A1.FP m b → (upd H A1.p (.dK (dd_net (.ref A1.nl) (.ref A1.su) (.int (m.sent + 1)) (.ref A1.way)))) b ≠ none := fun b hb e => at0.occ hb (upd_none e)
      have k1 : Tk H (upd H A1.p (.dK (dd_net (.ref A1.nl) (.ref A1.su) (.int (m.sent + 1)) (.ref A1.way)))) := tk_mut at0.op (by intro _ z; cases z)
      generalize upd H A1.p (.dK (dd_net (.ref A1.nl) (.ref A1.su) (.int (m.sent + 1)) (.ref A1.way))) = H1 at b1 o1 w1 k1 ⊢
      have nW : ∀ b, H1 b = none → ¬ A1.W b := fun b e z => w1 b (.inl z) e
      have pW : A1.W A1.p := .inl rfl
      have su1 : H1 A1.su = some (.dK (tblD A1.ns A1.tb)) := b1 _ _ at0.su fun z => ok.sw (by rw [z]; exact pW)
      have tb1 : H1 (A1.tb a) = some (.dK (tblD A1.ns (A1.inn a))) := b1 _ _ (at0.tb a ha) fun z => ok.tw a ha (by rw [z]; exact pW)
      have nl1 : H1 A1.nl = some (.lst (A1.ss.map V.str)) := b1 _ _ at0.nl fun z => by
        have h1 := at0.nl
        rw [z, at0.op] at h1
        cases h1
      have way1 : H1 A1.way = some (.dK (mDict (m.ms.map (·.m)))) := b1 _ _ at0.way ok.pw.symm
      have inn1 : ∀ z ∈ A1.ns, NdAt P w H1 (A1.inn a z) lrDt (kvN (m.N a z)) := fun z hz => (at0.inn a ha z hz).but b1 (ok.pi a ha z hz) k1
      have et1 := k1 _ _ et
      have ssn : ∀ z ∈ A1.ss, z ∈ A1.ns := fun z hz => ok.ss.mem_iff.mp hz
      have snd : A1.ss.Nodup := ok.ss.nodup_iff.mpr ok.ns.1
      have sl : A1.ss.length ≤ 8 := by rw [ok.ss.length_eq]; exact ok.ns.2.2.1
      have z9 : (9 : Nat) < sizeLine := by decide
      have z1001 : (1001 : Nat) < sizeLine := by decide
      refine ⟨_, rfl, A1.p, _, rfl, (g0 o1).1, A1.nl, rfl, ⟨_, SqL.of nl1⟩, fun D hD => lc_rel walk_list (fun n l H' => ∃ (kd : Str → Addr) (ps : List Addr), l = ps.map V.ref ∧ Paired (fun p z => H' p = some (.tup [.str z, .ref (kd z)])) ps (A1.ss.take n) ∧ ∀ z ∈ A1.ss.take n, NdAt P w H' (kd z) lrDt (kvN (m.N a z)) ∧ H1 (kd z) = none ∧ kd z ≠ D) hD (fun H' s => SqL.of (s _ _ nl1)) ⟨fun _ => 0, [], rfl, .nil, by simp⟩ ?_ ?_⟩
      · rintro n x l H3 H4 hn hl s e3 ⟨kd, ps, rfl, hps, hkd⟩ ⟨rfl, hx⟩
        obtain ⟨z, hz, rfl⟩ := getMap hx
        have hzs := List.mem_of_getElem? hz
        have hzm := ssn z hzs
        have hzt := nodup_take snd hz
        rw [List.length_map] at hn
        have gN := at0.good a ha z hzm
        have lN := gN.len
        have hU := ok.u
        obtain ⟨xs, ex, pr⟩ := (inn1 z hzm).same s
        have lxs : xs.length = (m.N a z).length := by
          have := Paired.length pr
          unfold kvN at this
          rw [List.length_map] at this
          exact this.symm
        refine ⟨rfl, _, rfl, A1.inn a z, _, ex, trivial, fun od => ?_⟩
        have niS : A1.su ≠ A1.inn a z := fun q => ok.sw (.inr (.inr ⟨a, ha, z, hzm, q⟩))
        have niT : A1.tb a ≠ A1.inn a z := fun q => ok.tw a ha (.inr (.inr ⟨a, ha, z, hzm, q⟩))
        have suL : (upd H4 (A1.inn a z) (.frz od (.ext (NdRaw P w (A1.inn a z) xs)))) A1.su = some (.dK (tblD A1.ns A1.tb)) := by rw [upd_ne niS]; exact s _ _ su1
        have tbL : (upd H4 (A1.inn a z) (.frz od (.ext (NdRaw P w (A1.inn a z) xs)))) (A1.tb a) = some (.dK (tblD A1.ns (A1.inn a))) := by rw [upd_ne niT]; exact s _ _ tb1
        have kL : Tk H4 (upd H4 (A1.inn a z) (.frz od (.ext (NdRaw P w (A1.inn a z) xs)))) := tk_mut ex (by intro _ z; cases z)
        have etL := kL _ _ (s _ _ et1)
        refine ⟨_, rfl, _, rfl, _, _, _, _, rfl, rfl, SqT.of etL, atI_nat (j := 1) rfl, A1.su, .ref (A1.tb a), rfl, tblD_val (g := A1.tb) ha ▸ DGet.k (k := Sum.inr a) suL, _, rfl, A1.tb a, .ref (A1.inn a z), rfl, tblD_val (g := A1.inn a) hzm ▸ DGet.k (k := Sum.inr z) tbL, A1.inn a z, od, xs, rfl, upd_same,
          fun D2 hD2 => lc_rel walk_keysN (fun j l H' => ∃ ps, l = ps.map V.ref ∧ RowPs H' ps ((m.N a z).take j)) hD2 (fun H' s => s _ _ upd_same) ⟨[], rfl, .nil⟩ ?_ ?_⟩
        · rintro j y l2 H5 H6 hj hl2 s5 e5 ⟨ps2, rfl, hp2⟩ ⟨rfl, en, hen, rfl⟩
          obtain ⟨p, hp, c1, c2, c3⟩ := paired_getR pr hen
          obtain ⟨x, hx, rfl⟩ : ∃ x, (m.N a z)[j]? = some x ∧ p = (x, V.bl true) := by
            unfold kvN at hp
            rw [List.getElem?_map] at hp
            cases q : (m.N a z)[j]? with
            | none =>
              rw [q] at hp
              cases hp
            | some x =>
              rw [q] at hp
              exact ⟨x, rfl, (Option.some.inj hp).symm⟩
          refine ⟨rfl, _, rfl, z2, fun t ht => ?_⟩
          have q1 := same_new (o := .tup [.ref en.2.1, .bl true]) ht
          have tD2 : t ≠ D2 := fun z => by rw [z, e5] at ht; cases ht
          have e6 := q1 _ _ e5
          have k6 : Tk H6 (upd (upd H6 t (.tup [.ref en.2.1, .bl true])) D2 (.lst (ps2.map V.ref ++ [.ref t]))) := (tk_same q1).trans (tk_mut e6 (by intro _ z; cases z))
          refine lc_take hD2 (by omega) hl2 (s5.trans q1) e6 ⟨ps2 ++ [t], by simp, ?_⟩
          rw [take_snoc hx]
          exact paired_snoc (hp2.keep k6) ⟨en.2.1, by rw [upd_ne tD2]; exact upd_same, ((c2.keep kL).keep (tk_same s5)).keep k6⟩
        · rintro l2 H5 hl2 s5 e5 ⟨ps2, rfl, hp2⟩
          rw [lxs, List.take_length] at hp2
          have eF := s5 _ _ (upd_same (a := A1.inn a z) (o := .frz od (.ext (NdRaw P w (A1.inn a z) xs))) (H := H4))
          refine ⟨eF, ?_⟩
          have sU := frz_same ex s5
          have D2i : D2 ≠ A1.inn a z := fun q => by rw [q, upd_same] at hD2; cases hD2
          have kU : Tk H5 (upd H5 (A1.inn a z) (.ext (NdRaw P w (A1.inn a z) xs))) := tk_mut eF (by intro _ z; cases z)
          refine ⟨D2, ps2, LR, inferInstance, lrDt, kvN (m.N a z), kLR, rfl, by rw [upd_ne D2i]; exact e5, (hp2.keep kU).kv, fun d o hd ho nd => ⟨z2, fun t ht => ?_⟩⟩
          rw [merge_kvN, mergeNR_nil _ gN.1] at nd
          have q1 := same_new (o := o) hd
          have q2 := same_new (o := .tup [.str z, .ref d]) ht
          have sA := sU.trans (q1.trans q2)
          have eA := sA _ _ e3
          have dD : d ≠ D := fun q => by rw [q, sU _ _ e3] at hd; cases hd
          have tD : t ≠ D := fun q => by rw [q, q1 _ _ (sU _ _ e3)] at ht; cases ht
          have dn : H1 d = none := same_free s (same_free sU hd)
          refine lc_take hD (by omega) hl (s.trans sA) eA ⟨setA kd z d, ps ++ [t], by simp, ?_, fun y hy => ?_⟩
          · rw [take_snoc hz]
            refine paired_snoc (paired_mem hps fun p y1 hy1 ep => ?_) ?_
            · have n : y1 ≠ z := fun e => hzt (e ▸ hy1)
              rw [setA_ne n, upd_ne fun z => by rw [z, e3] at ep; cases ep]
              exact sA _ _ ep
            · rw [setA_same, upd_ne tD]
              exact upd_same
          · have k7 : ∀ {l : List V}, Tk _ (upd _ D (.lst l)) := fun {l} => tk_mut eA (u := .lst l) (by intro _ z; cases z)
            by_cases ey : y = z
            · subst ey
              rw [setA_same]
              exact ⟨(nd.same q2).keep k7 (upd_ne dD), dn, dD⟩
            · rw [setA_ne ey]
              obtain ⟨c1, c2, c3⟩ := hkd y (((mem_take_succ hz).mp hy).resolve_right ey)
              exact ⟨(c1.same sA).keep k7 (upd_ne c3), c2, c3⟩
      · rintro l H3 hl s e3 ⟨kd, ps, rfl, hps, hkd⟩
        rw [List.length_map, List.take_length] at hps hkd
        refine ⟨D, ps, tblD A1.ss kd, rfl, SqL.of e3, paired_mapR hps fun p y e => SqT.of e, fun d hd => ?_⟩
        rw [show mergeK [] (tblD A1.ss kd) = tblD A1.ss kd from merge_strs (fun z => V.ref (kd z)) A1.ss snd]
        have q1 := same_new (o := .dK (tblD A1.ss kd)) hd
        have s4 := s.trans q1
        have et4 := s4 _ _ et1
        refine ⟨_, rfl, _, _, _, _, rfl, rfl, SqT.of et4, atI_nat (j := 1) rfl, _, rfl, _, _, _, _, rfl, rfl, SqT.of et4, atI_nat (j := 2) rfl, _, rfl, z3, fun t5 ht5 => ?_⟩
        have q2 := same_new (o := .tup [.str a, .str b, .ref d]) ht5
        have s5 := s4.trans q2
        have o5 := s5 _ _ o1
        have way5 := s5 _ _ way1
        have lms : (mDict (m.ms.map (·.m))).length ≤ 1000 := by
          unfold mDict
          rw [List.length_map, List.length_map]
          exact Nat.le_trans at0.ml hm
        have fresh : (Sum.inl ((m.sent : Int) + 1) : Key) ∉ (mDict (m.ms.map (·.m))).map (·.1) := fun hx => by
          obtain ⟨kv, h1, h2⟩ := List.mem_map.mp hx
          obtain ⟨g, h3, rfl⟩ := List.mem_map.mp h1
          obtain ⟨g', h4, rfl⟩ := List.mem_map.mp h3
          have e := Sum.inl.inj h2
          have := (at0.ms g' h4).hi
          omega
        refine ⟨_, rfl, A1.p, _, rfl, (g0 o5).2.2.2, _, rfl, A1.p, _, rfl, (g0 o5).2.2.1, A1.way, _, rfl, DPut.k (k := Sum.inl ((m.sent : Int) + 1)) way5 (Nat.lt_of_le_of_lt lms (by decide)), ?_⟩
        rw [putK_app fresh]
        have d1 : H1 d = none := same_free s hd
        have b6 : But A1.W H (upd (upd (upd H3 d (.dK (tblD A1.ss kd))) t5 (.tup [.str a, .str b, .ref d])) A1.way (.dK (mDict (m.ms.map (·.m)) ++ [(Sum.inl ((m.sent : Int) + 1), .ref t5)]))) := ((b1.mono fun b z => .inl z).trans (but_same s5)).upd (.inr (.inl rfl))
        have k6 : Tk (upd (upd H3 d (.dK (tblD A1.ss kd))) t5 (.tup [.str a, .str b, .ref d])) (upd (upd (upd H3 d (.dK (tblD A1.ss kd))) t5 (.tup [.str a, .str b, .ref d])) A1.way (.dK (mDict (m.ms.map (·.m)) ++ [(Sum.inl ((m.sent : Int) + 1), .ref t5)]))) := tk_mut way5 (by intro _ z; cases z)
        have et6 := k6 _ _ (q2 _ _ et4)
        have dway : d ≠ A1.way := fun z => nW d d1 (.inr (.inl z))
        have tway : t5 ≠ A1.way := fun z => by rw [z, s4 _ _ way1] at ht5; cases ht5
        have free0 : ∀ b, H1 b = none → H b = none := fun b e => b1.free e fun z => nW b e (.inl z)
        refine ⟨_, rfl, _, _, _, _, rfl, rfl, SqT.of et6, atI_nat (j := 0) rfl, rfl, _, rfl, iteF ⟨_, rfl, _, _, _, _, rfl, rfl, SqT.of et6, atI_nat (j := 0) rfl, rfl, _, rfl, iteF ?_⟩⟩
        refine q _ ⟨m.N, m.ms ++ [⟨⟨(m.sent : Int) + 1, a, b, t5, d⟩, kd, fun z => m.N a z⟩], m.sent + 1⟩ b6 (at0.step ok b6 ?_ (fun i hi j hj => ?_) at0.good ?_ (fun g hg => ?_) (Nat.le_succ _) (by rw [List.length_append]; have := at0.ml; simp; omega)) ⟨_, rfl, rfl, rfl, rfl, fun z _ => rfl⟩ ?_
        · rw [upd_ne ok.pw]
          exact o5
        · exact (at0.inn i hi j hj).keep (at0.tk b6) (by
            obtain ⟨xs, ex⟩ := (at0.inn i hi j hj).occ
            rw [ex, upd_ne (ok.wi i hi j hj)]
            exact s5 _ _ (b1 _ _ ex (ok.pi i hi j hj)))
        · rw [upd_same, List.map_append]
          unfold mDict
          rw [List.map_append]
          rfl
        · rcases List.mem_append.mp hg with hg | hg
          · exact .inl hg
          · obtain rfl := List.mem_singleton.mp hg
            refine .inr ⟨?_, ?_, nW d d1, ha, hb, by show (m.sent : Int) + 1 ≤ ((m.sent + 1 : Nat) : Int); omega, fun z hz => ?_, fun z hz => nW _ (hkd z (ok.ss.mem_iff.mpr hz)).2.1, fun z hz => at0.good a ha z hz⟩
            · show (upd _ _ _) t5 = some (.tup [.str a, .str b, .ref d])
              rw [upd_ne tway]
              exact upd_same
            · show (upd _ _ _) d = some (.dK (tblD A1.ss kd))
              rw [upd_ne dway]
              exact q2 _ _ upd_same
            · obtain ⟨c1, c2, c3⟩ := hkd z (ok.ss.mem_iff.mpr hz)
              exact (c1.same (q1.trans q2)).keep k6 (upd_ne fun e => nW _ c2 (.inr (.inl e)))
        · rintro b' (hb' | hb' | hb' | ⟨g, hg, hb'⟩)
          · exact .inl (.inl hb')
          · exact .inl (.inr (.inl hb'))
          · exact .inl (.inr (.inr (.inl hb')))
          · rcases List.mem_append.mp hg with hg | hg
            · exact .inl (.inr (.inr (.inr ⟨g, hg, hb'⟩)))
            · obtain rfl := List.mem_singleton.mp hg
              rcases hb' with hb' | ⟨z, hz, hb'⟩
              · exact .inr (by rw [hb']; exact free0 _ d1)
              · exact .inr (by rw [hb']; exact free0 _ (hkd z (ok.ss.mem_iff.mpr hz)).2.1)
    | deliver k =>
      obtain ⟨g, hg⟩ := okd
      obtain ⟨t, xs, rfl, et, tvs⟩ := td
      obtain rfl : xs = [.str "deliver", .int k] := by
        match xs, tvs with
        | [x1, x2], ⟨h1, h2, _⟩ => rw [show x1 = V.str "deliver" from h1, show x2 = .int k from h2]
      have hgm := List.mem_of_find?_eq_some hg
      have gat := at0.ms g hgm
      have hto := gat.to
      have ssn : ∀ z ∈ A1.ss, z ∈ A1.ns := fun z hz => ok.ss.mem_iff.mp hz
      have sl : A1.ss.length ≤ 8 := by rw [ok.ss.length_eq]; exact ok.ns.2.2.1
      have z1001 : (1001 : Nat) < sizeLine := by decide
      have stepL : ∀ {H3 : Hp} {dk : Addr} {od : Obj} {us : List (NestedKey × Addr × Value)} {N2 : Str → Str → List LR} {y : Str} {x : LR} {b : Addr} {Qn : Hp → Prop}, H3 dk = some (.frz od (.ext (NdRaw P w dk us))) → ¬ A1.W dk → But A1.W H (upd H3 dk (.ext (NdRaw P w dk us))) → NetAt P w UL (upd H3 dk (.ext (NdRaw P w dk us))) A1 ⟨N2, m.ms, m.sent⟩ → y ∈ A1.ns → x ∈ UL → Tv H3 (lrDt x) (.ref b) →
          (∀ H4, H4 dk = some (.frz od (.ext (NdRaw P w dk us))) → But A1.W H (upd H4 dk (.ext (NdRaw P w dk us))) → Tk H3 H4 → NetAt P w UL (upd H4 dk (.ext (NdRaw P w dk us))) A1 ⟨setN N2 g.m.to y (putN (N2 g.m.to y) x), m.ms, m.sent⟩ → Qn H4) → NPut P w H3 (A1.inn g.m.to y) (.ref b) (.bl true) Qn := fun {H3 dk od us N2 y x b Qn} e nd bu at3 hy hx tx kq => by
        have ni : A1.inn g.m.to y ≠ dk := fun z => nd (by rw [← z]; exact .inr (.inr ⟨_, hto, y, hy, rfl⟩))
        have ku : Tk (upd H3 dk (.ext (NdRaw P w dk us))) H3 := fun b xs q => by
          by_cases hb : b = dk
          · rw [hb, upd_same] at q
            cases q
          · rwa [upd_ne hb] at q
        have n3 : NdAt P w H3 (A1.inn g.m.to y) lrDt (kvN (N2 g.m.to y)) := (at3.inn _ hto y hy).keep ku (upd_ne ni).symm
        have gN : GoodN UL (N2 g.m.to y) := at3.good _ hto y hy
        refine NPut.of kLR n3 tx ?_ fun o k3 b3 n4 => ?_
        · unfold kvN
          rw [List.length_map]
          have := gN.len
          have hU := ok.u
          omega
        rw [kvN_put] at n4
        have ec : upd (upd H3 (A1.inn g.m.to y) o) dk (.ext (NdRaw P w dk us)) = upd (upd H3 dk (.ext (NdRaw P w dk us))) (A1.inn g.m.to y) o := upd_comm ni
        have e4 : (upd H3 (A1.inn g.m.to y) o) dk = some (.frz od (.ext (NdRaw P w dk us))) := by rw [upd_ne ni.symm]; exact e
        have k4 : Tk (upd H3 (A1.inn g.m.to y) o) (upd (upd H3 (A1.inn g.m.to y) o) dk (.ext (NdRaw P w dk us))) := tk_mut e4 (by intro _ z; cases z)
        have n5 := n4.keep k4 (upd_ne ni)
        rw [ec] at n5
        obtain ⟨p1, p2⟩ := at3.put (o := o) ok hto hy n5 (gN.put hx)
        exact kq _ e4 (by rw [ec]; exact bu.trans p2) k3 (by rw [ec]; exact p1)
      have rdL : ∀ {H3 : Hp} {dk : Addr} {us : List (NestedKey × Addr × Value)} {b : Addr} {kv : List (Key × V)}, (upd H3 dk (.ext (NdRaw P w dk us))) b = some (.dK kv) → H3 b = some (.dK kv) := fun {H3 dk us b kv} e => by
        by_cases hb : b = dk
        · rw [hb, upd_same] at e
          cases e
        · rwa [upd_ne hb] at e
      refine ⟨_, rfl, _, _, _, _, rfl, rfl, SqT.of et, atI_nat (j := 0) rfl, rfl, _, rfl, iteF ⟨_, rfl, _, _, _, _, rfl, rfl, SqT.of et, atI_nat (j := 0) rfl, rfl, _, rfl, iteF ⟨_, rfl, _, _, _, _, rfl, rfl, SqT.of et, atI_nat (j := 0) rfl, rfl, _, rfl, iteT ?_⟩⟩⟩
      refine ⟨_, rfl, A1.p, _, rfl, (g0 at0.op).2.2.2, _, rfl, _, _, _, _, rfl, rfl, SqT.of et, atI_nat (j := 1) rfl, A1.way, .ref g.m.t, rfl, nway_val hg ▸ DGet.k (k := Sum.inl k) at0.way, g.m.t, _, rfl, SqT.of gat.m, rfl, _, _, rfl, _, _, rfl, _, _, rfl, rfl, ?_⟩
      refine ⟨_, rfl, A1.p, _, rfl, (g0 at0.op).1, A1.nl, rfl, ⟨_, SqL.of at0.nl⟩, for_it walk_list (fun n σ H2 => ∃ (v7 v8 : Option V) (N' : Str → Str → List LR), σ = [some (.ref A1.p), some (.ref t), some (.ref A1.su), none, some (.str g.m.fr), some (.str g.m.to), some (.ref g.m.kept), v7, v8] ∧ But A1.W H H2 ∧ NetAt P w UL H2 A1 ⟨N', m.ms, m.sent⟩ ∧ ∀ i j x, x ∈ N' i j ↔ x ∈ m.N i j ∨ (i = g.m.to ∧ j ∈ A1.ss.take n ∧ x ∈ g.kl j))
        ⟨_, _, m.N, rfl, but_refl, at0, fun i j x => by simp⟩ (fun n σ H2 _ ⟨_, _, _, _, _, at2, _⟩ => SqL.of at2.nl) ?_ ?_⟩
      · rintro n x σ H2 H3 hn ⟨v7, v8, N', rfl, b2, at2, hN'⟩ ⟨rfl, hx⟩
        obtain ⟨z, hz, rfl⟩ := getMap hx
        have hzs := List.mem_of_getElem? hz
        have hzm := ssn z hzs
        have g2 := at2.ms g hgm
        obtain ⟨xs, ex, pr⟩ := g2.kd z hzm
        have lxs : xs.length = (g.kl z).length := by
          have := Paired.length pr
          unfold kvN at this
          rw [List.length_map] at this
          exact this.symm
        have gl := g2.good z hzm
        have dw := g2.dw z hzm
        refine ⟨g.kd z, _, ex, trivial, fun od => ?_⟩
        have kept3 : (upd H3 (g.kd z) (.frz od (.ext (NdRaw P w (g.kd z) xs)))) g.m.kept = some (.dK (tblD A1.ss g.kd)) := by
          rw [upd_ne fun q => by
            have h1 := g2.kept
            rw [q, ex] at h1
            cases h1]
          exact g2.kept
        have kz : (tblD A1.ss g.kd).length = (tblD A1.ss g.kd).length := rfl
        have kL : Tk H3 (upd H3 (g.kd z) (.frz od (.ext (NdRaw P w (g.kd z) xs)))) := tk_mut ex (by intro _ z; cases z)
        have uu : upd (upd H3 (g.kd z) (.frz od (.ext (NdRaw P w (g.kd z) xs)))) (g.kd z) (.ext (NdRaw P w (g.kd z) xs)) = H3 := by
          funext c
          by_cases hc : c = g.kd z
          · rw [hc, upd_same]
            exact ex.symm
          · rw [upd_ne hc, upd_ne hc]
        refine ⟨_, rfl, _, rfl, g.m.kept, .ref (g.kd z), rfl, tblD_val (g := g.kd) hzs ▸ DGet.k (k := Sum.inr z) kept3, g.kd z, od, xs, rfl, upd_same, for_it walk_keysN (fun j σ H4 => ∃ (v8 : Option V) (N2 : Str → Str → List LR), σ = [some (.ref A1.p), some (.ref t), some (.ref A1.su), none, some (.str g.m.fr), some (.str g.m.to), some (.ref g.m.kept), some (.str z), v8] ∧ H4 (g.kd z) = some (.frz od (.ext (NdRaw P w (g.kd z) xs))) ∧ But A1.W H (upd H4 (g.kd z) (.ext (NdRaw P w (g.kd z) xs))) ∧ Tk H3 H4 ∧ NetAt P w UL (upd H4 (g.kd z) (.ext (NdRaw P w (g.kd z) xs))) A1 ⟨N2, m.ms, m.sent⟩ ∧ ∀ i j' x, x ∈ N2 i j' ↔ x ∈ N' i j' ∨ (i = g.m.to ∧ j' = z ∧ x ∈ (g.kl z).take j))
          ⟨_, N', rfl, upd_same, by rw [uu]; exact b2, kL, by rw [uu]; exact at2, fun i j' x => by simp⟩ (fun j σ H4 _ ⟨_, _, _, e, _⟩ => e) ?_ ?_⟩
        · rintro j y σ H4 H5 hj ⟨v8, N2, rfl, e4, b4, k4, at4, hN2⟩ ⟨rfl, en, hen, rfl⟩
          obtain ⟨p, hp, c1, c2, c3⟩ := paired_getR pr hen
          obtain ⟨x, hx, rfl⟩ : ∃ x, (g.kl z)[j]? = some x ∧ p = (x, V.bl true) := by
            unfold kvN at hp
            rw [List.getElem?_map] at hp
            cases q : (g.kl z)[j]? with
            | none =>
              rw [q] at hp
              cases hp
            | some x =>
              rw [q] at hp
              exact ⟨x, rfl, (Option.some.inj hp).symm⟩
          refine ⟨_, rfl, _, rfl, A1.su, .ref (A1.tb g.m.to), rfl, tblD_val (g := A1.tb) hto ▸ DGet.k (k := Sum.inr g.m.to) (rdL at4.su), _, rfl, A1.tb g.m.to, .ref (A1.inn g.m.to z), rfl, tblD_val (g := A1.inn g.m.to) hzm ▸ DGet.k (k := Sum.inr z) (rdL (at4.tb _ hto)), _, rfl, A1.inn g.m.to z, rfl,
            stepL e4 dw b4 at4 hzm (gl.2 x (List.mem_of_getElem? hx)) (c2.keep k4) fun H6 e6 b6 k6 at6 => ⟨_, _, rfl, e6, b6, k4.trans k6, at6, fun i j' y => ?_⟩⟩
          rw [setN_mem, hN2, take_snoc hx, List.mem_append, List.mem_singleton]
          constructor
          · rintro ((h | ⟨h1, h2, h3⟩) | ⟨h1, h2, h3⟩)
            · exact .inl h
            · exact .inr ⟨h1, h2, .inl h3⟩
            · exact .inr ⟨h1, h2, .inr h3⟩
          · rintro (h | ⟨h1, h2, h3 | h3⟩)
            · exact .inl (.inl h)
            · exact .inl (.inr ⟨h1, h2, h3⟩)
            · exact .inr ⟨h1, h2, h3⟩
        · rintro σ H4 ⟨v8, N2, rfl, e4, b4, k4, at4, hN2⟩
          rw [lxs, List.take_length] at hN2
          refine ⟨e4, _, _, N2, rfl, b4, at4, fun i j' x => ?_⟩
          rw [hN2, hN', take_snoc hz, List.mem_append, List.mem_singleton]
          constructor
          · rintro ((h | ⟨h1, h2, h3⟩) | ⟨h1, h2, h3⟩)
            · exact .inl h
            · exact .inr ⟨h1, .inl h2, h3⟩
            · exact .inr ⟨h1, .inr h2, h2 ▸ h3⟩
          · rintro (h | ⟨h1, h2 | h2, h3⟩)
            · exact .inl (.inl h)
            · exact .inl (.inr ⟨h1, h2, h3⟩)
            · exact .inr ⟨h1, h2, h2 ▸ h3⟩
      · rintro σ H2 ⟨v7, v8, N', rfl, b2, at2, hN'⟩
        rw [List.length_map, List.take_length] at hN'
        have g2 := at2.ms g hgm
        have hfr := gat.fr
        obtain ⟨xs, ex, pr⟩ := g2.kd g.m.fr hfr
        have lxs : xs.length = (g.kl g.m.fr).length := by
          have := Paired.length pr
          unfold kvN at this
          rw [List.length_map] at this
          exact this.symm
        have gl := g2.good _ hfr
        have dw := g2.dw _ hfr
        refine ⟨g.kd g.m.fr, _, ex, trivial, fun od => ?_⟩
        have kept3 : (upd H2 (g.kd g.m.fr) (.frz od (.ext (NdRaw P w (g.kd g.m.fr) xs)))) g.m.kept = some (.dK (tblD A1.ss g.kd)) := by
          rw [upd_ne fun q => by
            have h1 := g2.kept
            rw [q, ex] at h1
            cases h1]
          exact g2.kept
        have kL : Tk H2 (upd H2 (g.kd g.m.fr) (.frz od (.ext (NdRaw P w (g.kd g.m.fr) xs)))) := tk_mut ex (by intro _ z; cases z)
        have uu : upd (upd H2 (g.kd g.m.fr) (.frz od (.ext (NdRaw P w (g.kd g.m.fr) xs)))) (g.kd g.m.fr) (.ext (NdRaw P w (g.kd g.m.fr) xs)) = H2 := by
          funext c
          by_cases hc : c = g.kd g.m.fr
          · rw [hc, upd_same]
            exact ex.symm
          · rw [upd_ne hc, upd_ne hc]
        refine ⟨_, rfl, _, rfl, g.m.kept, .ref (g.kd g.m.fr), rfl, tblD_val (g := g.kd) (ok.ss.mem_iff.mpr hfr) ▸ DGet.k (k := Sum.inr g.m.fr) kept3, g.kd g.m.fr, od, xs, rfl, upd_same, for_it walk_keysN (fun j σ H4 => ∃ (v8 : Option V) (N2 : Str → Str → List LR), σ = [some (.ref A1.p), some (.ref t), some (.ref A1.su), none, some (.str g.m.fr), some (.str g.m.to), some (.ref g.m.kept), v7, v8] ∧ H4 (g.kd g.m.fr) = some (.frz od (.ext (NdRaw P w (g.kd g.m.fr) xs))) ∧ But A1.W H (upd H4 (g.kd g.m.fr) (.ext (NdRaw P w (g.kd g.m.fr) xs))) ∧ Tk H2 H4 ∧ NetAt P w UL (upd H4 (g.kd g.m.fr) (.ext (NdRaw P w (g.kd g.m.fr) xs))) A1 ⟨N2, m.ms, m.sent⟩ ∧ ∀ i j' x, x ∈ N2 i j' ↔ x ∈ N' i j' ∨ (i = g.m.to ∧ j' = g.m.to ∧ x ∈ (g.kl g.m.fr).take j))
          ⟨_, N', rfl, upd_same, by rw [uu]; exact b2, kL, by rw [uu]; exact at2, fun i j' x => by simp⟩ (fun j σ H4 _ ⟨_, _, _, e, _⟩ => e) ?_ ?_⟩
        · rintro j y σ H4 H5 hj ⟨v8, N2, rfl, e4, b4, k4, at4, hN2⟩ ⟨rfl, en, hen, rfl⟩
          obtain ⟨p, hp, c1, c2, c3⟩ := paired_getR pr hen
          obtain ⟨x, hx, rfl⟩ : ∃ x, (g.kl g.m.fr)[j]? = some x ∧ p = (x, V.bl true) := by
            unfold kvN at hp
            rw [List.getElem?_map] at hp
            cases q : (g.kl g.m.fr)[j]? with
            | none =>
              rw [q] at hp
              cases hp
            | some x =>
              rw [q] at hp
              exact ⟨x, rfl, (Option.some.inj hp).symm⟩
          refine ⟨_, rfl, _, rfl, A1.su, .ref (A1.tb g.m.to), rfl, tblD_val (g := A1.tb) hto ▸ DGet.k (k := Sum.inr g.m.to) (rdL at4.su), _, rfl, A1.tb g.m.to, .ref (A1.inn g.m.to g.m.to), rfl, tblD_val (g := A1.inn g.m.to) hto ▸ DGet.k (k := Sum.inr g.m.to) (rdL (at4.tb _ hto)), _, rfl, A1.inn g.m.to g.m.to, rfl,
            stepL e4 dw b4 at4 hto (gl.2 x (List.mem_of_getElem? hx)) (c2.keep k4) fun H6 e6 b6 k6 at6 => ⟨_, _, rfl, e6, b6, k4.trans k6, at6, fun i j' y => ?_⟩⟩
          rw [setN_mem, hN2, take_snoc hx, List.mem_append, List.mem_singleton]
          constructor
          · rintro ((h | ⟨h1, h2, h3⟩) | ⟨h1, h2, h3⟩)
            · exact .inl h
            · exact .inr ⟨h1, h2, .inl h3⟩
            · exact .inr ⟨h1, h2, .inr h3⟩
          · rintro (h | ⟨h1, h2, h3 | h3⟩)
            · exact .inl (.inl h)
            · exact .inl (.inr ⟨h1, h2, h3⟩)
            · exact .inr ⟨h1, h2, h3⟩
        · rintro σ H4 ⟨v8, N2, rfl, e4, b4, k4, at4, hN2⟩
          rw [lxs, List.take_length] at hN2
          refine ⟨e4, ?_⟩
          have kU : Tk H4 (upd H4 (g.kd g.m.fr) (.ext (NdRaw P w (g.kd g.m.fr) xs))) := tk_mut e4 (by intro _ z; cases z)
          have et5 := at0.tk b4 _ _ et
          refine ⟨_, rfl, _, _, _, _, rfl, rfl, SqT.of et5, atI_nat (j := 0) rfl, rfl, _, rfl, iteF ?_⟩
          refine q _ _ b4 at4 ⟨g, N2, hg, rfl, fun i hi j hj x => ?_⟩ fun b hb => .inl hb
          rw [hN2, hN']
          constructor
          · rintro ((h | ⟨h1, h2, h3⟩) | ⟨h1, h2, h3⟩)
            · exact .inl h
            · exact .inr ⟨h1, .inl h3⟩
            · exact .inr ⟨h1, .inr ⟨h2, h3⟩⟩
          · rintro (h | ⟨h1, h3 | ⟨h2, h3⟩⟩)
            · exact .inl (.inl h)
            · exact .inl (.inr ⟨h1, ok.ss.mem_iff.mpr hj, h3⟩)
            · exact .inr ⟨h1, h2, h3⟩
end
end Lv
set_option maxHeartbeats 4000000
namespace Lv
open PySem PySem.Spec PyProof.Rows L2
def iKeysNF (P : Program) (w : World) (td : TE) : TI := fun σ H R => td σ H fun x H1 => ∃ d xs, x = .ref d ∧ H1 d = some (.ext (NdRaw P w d xs)) ∧ ∀ o, R (Itkn P w d o xs) (upd H1 d (.frz o (.ext (NdRaw P w d xs))))
theorem pi_keysNF {X : Cx} {P : Program} {w : World} {tg e : Expr} {td : TE} (he : PE X e td) (hP : X.prog = P := by rfl) (hw : X.w = w := by rfl) : PI X tg e (iKeysNF P w td) := by
  subst hP hw
  refine ⟨fun pins s σ H R I h => ?_⟩
  refine thn (he.run pins s σ H _ I h) fun u s1 ⟨x, H1, I1, rx, d, xs, ex, hd, q⟩ => ?_
  subst ex
  obtain rfl : u = Value.ref d := rx
  obtain ⟨od, I2⟩ := I1.lock hd trivial
  obtain ⟨hs, hgd, hx, es, ep, hdt, hsz, ent⟩ := frzN I2 upd_same
  refine iter_keys hs hgd hx hdt (pi_one (tk := s1.toks) I2 _ (turn_keysN _ hdt) ⟨_, Heap.get?_push_size _ rfl, rfl, ?_⟩ (q od))
  rw [hsz] <;> rfl
def uniq (l : List Str) : List Str := l.foldl (fun l x => if x ∈ l then l else l ++ [x]) []
theorem uniq_snoc (l : List Str) (x : Str) : uniq (l ++ [x]) = if x ∈ uniq l then uniq l else uniq l ++ [x] := by
  unfold uniq
  rw [List.foldl_append]
  rfl
theorem uniq_mem (x : Str) : ∀ l : List Str, x ∈ uniq l ↔ x ∈ l := by
  refine rev_ind Iff.rfl fun l y ih => ?_
  rw [uniq_snoc]
  by_cases h : y ∈ uniq l
  · rw [if_pos h, List.mem_append, List.mem_singleton, ← ih]
    exact ⟨.inl, fun q => q.elim id fun e => by rw [e]; exact h⟩
  · rw [if_neg h, List.mem_append, List.mem_append, ih]
theorem uniq_nodup : ∀ l : List Str, (uniq l).Nodup := by
  refine rev_ind List.nodup_nil fun l y ih => ?_
  rw [uniq_snoc]
  by_cases h : y ∈ uniq l
  · rw [if_pos h]
    exact ih
  · rw [if_neg h]
    exact nd_snoc ih h
theorem merge_uniq (v : V) : ∀ l : List Str, mergeK [] (l.map fun z => ((Sum.inr z : Key), v)) = (uniq l).map fun z => ((Sum.inr z : Key), v) := by
  refine rev_ind rfl fun l x ih => ?_
  rw [List.map_append, List.map_cons, List.map_nil, mergeK_app, ih, uniq_snoc]
  by_cases h : x ∈ uniq l
  · rw [if_pos h]
    unfold putK
    have e : (((uniq l).map fun z => ((Sum.inr z : Key), v)).any fun kv => decide (kv.1 = (Sum.inr x : Key))) = true := by
      rw [List.any_eq_true]
      exact ⟨(Sum.inr x, v), List.mem_map.mpr ⟨x, h, rfl⟩, decide_eq_true rfl⟩
    rw [if_pos e, List.map_map]
    refine List.map_congr_left fun z _ => ?_
    show (if (Sum.inr z : Key) = Sum.inr x then ((Sum.inr z : Key), v) else ((Sum.inr z : Key), v)) = ((Sum.inr z : Key), v)
    split <;> rfl
  · rw [if_neg h]
    exact putK_map (f := fun _ => v) h
theorem kvN_get {l : List LR} {i : Nat} {p : LR × V} (h : (kvN l)[i]? = some p) : ∃ x, l[i]? = some x ∧ p = (x, V.bl true) := by
  unfold kvN at h
  rw [List.getElem?_map] at h
  cases q : l[i]? with
  | none =>
    rw [q] at h
    cases h
  | some x =>
    rw [q] at h
    exact ⟨x, rfl, (Option.some.inj h).symm⟩
theorem kvN_len (l : List LR) : (kvN l).length = l.length := List.length_map _
theorem upd_back {H : Hp} {d : Addr} {o u : HO} (h : H d = some u) : upd (upd H d o) d u = H := by
  funext c
  by_cases hc : c = d
  · rw [hc, upd_same]
    exact h.symm
  · rw [upd_ne hc, upd_ne hc]
section
variable {P : Program} {w : World} {K : PySem.W.Frag} {mg : Str → Option Value} {base : Heap} {UL : List LR}
def sp_law_net_heard (P : Program) (w : World) : Sp := sp1 fun v H Q => ∃ (UL : List LR) (A : NetA) (m : NetM), v = .ref A.p ∧ A.Ok UL ∧ NetAt P w UL H A m ∧
  ∀ (H' : Hp) (r : Addr) (L : List LR), Same H H' → H r = none → NdAt P w H' r lrDt (kvN L) → GoodN UL L → (∀ x, x ∈ L ↔ ∃ z ∈ A.ns, x ∈ m.N z z) → Q (.ref r) H'
end
end Lv
set_option maxHeartbeats 4000000
namespace Lv
open PySem PySem.Spec PyProof.Rows L2
theorem lr_at {H : Hp} {x : LR} {b : Addr} (h : Tv H (lrDt x) (.ref b)) : ∃ y, H b = some (.tup [.str x.1, .int x.2.1, y]) ∧ Tv H x.2.2.dt y := by
  obtain ⟨a, xs, e, et, tvs⟩ := h
  cases e
  match xs, tvs with
  | [x1, x2, x3], ⟨h1, h2, h3, _⟩ => exact ⟨x3, by rw [et, show x1 = .str x.1 from h1, show x2 = .int x.2.1 from h2], h3⟩
section
variable {P : Program} {w : World} {K : PySem.W.Frag} {mg : Str → Option Value} {base : Heap} {UL : List LR}
theorem NetA.Ok.room {A : NetA} (ok : A.Ok UL) : UL.length < sizeLine := by
  have := ok.u
  have : (1001 : Nat) < sizeLine := by decide
  omega
def sp_law_net_lacking (P : Program) (w : World) : Sp := sp2 fun v x0 H Q => ∃ (UL : List LR) (A : NetA) (m : NetM) (i : Str) (ks : List Str), v = .ref A.p ∧ A.Ok UL ∧ NetAt P w UL H A m ∧ x0 = .str i ∧ i ∈ A.ns ∧ ks.length < 64 ∧ (∀ x ∈ UL, x.1 ∈ ks) ∧
  ∀ (H' : Hp) (r : Addr) (ys : List Str), Same H H' → H' r = some (.lst (ys.map V.str)) → ys.Nodup → sortedS ys = true → (∀ k, k ∈ ys ↔ ∃ x, (∃ z ∈ A.ns, x ∈ m.N z z) ∧ x ∉ m.N i i ∧ x.1 = k) → Q (.ref r) H'
def sp_law_net_way (P : Program) (w : World) : Sp := sp1 fun v H Q => ∃ (UL : List LR) (A : NetA) (m : NetM), v = .ref A.p ∧ A.Ok UL ∧ NetAt P w UL H A m ∧ m.sent ≤ 1000 ∧ ∀ (H' : Hp) (r : Addr), Same H H' → Tv H' (.tup ((sortM (m.ms.map (·.m))).map msgDt)) (.ref r) → Q (.ref r) H'
end
end Lv
set_option maxHeartbeats 4000000
namespace Lv
open PySem PySem.Spec PyProof.Rows L2
theorem lrDt_ref {H : Hp} {x : LR} {v : V} (h : Tv H (lrDt x) v) : ∃ b, v = .ref b := let ⟨b, _, e, _⟩ := h; ⟨b, e⟩
theorem RowPs.snoc {H : Hp} {D t b : Addr} {ps : List Addr} {l : List LR} {x : LR} (h : RowPs H ps l) (tx : Tv H (lrDt x) (.ref b)) (ht : H t = none) (eD : H D = some (.lst (ps.map V.ref))) :
    RowPs (upd (upd H t (.tup [.ref b, .bl true])) D (.lst (ps.map V.ref ++ [.ref t]))) (ps ++ [t]) (l ++ [x]) := by
  have q1 := same_new (o := .tup [.ref b, .bl true]) ht
  have tD : t ≠ D := fun z => by rw [z, eD] at ht; cases ht
  have k6 : Tk H (upd (upd H t (.tup [.ref b, .bl true])) D (.lst (ps.map V.ref ++ [.ref t]))) := (tk_same q1).trans (tk_mut (q1 _ _ eD) (by intro _ z; cases z))
  exact paired_snoc (h.keep k6) ⟨b, by rw [upd_ne tD]; exact upd_same, tx.keep k6⟩
section
variable {P : Program} {w : World} {K : PySem.W.Frag} {mg : Str → Option Value} {base : Heap}
def sp_law_is_state (K : PySem.W.Frag) : Sp := sp3 fun v x0 x1 H Q => ∃ (y : Addr) (f : ForumA) (l' : List LRow) (ll : Addr) (L : List LR), v = .ref y ∧ StateAt K H y f.x l' ∧ x0 = .ref f.x ∧ f.At K H ∧ (∀ e ∈ l', LRow.At K H e) ∧ l'.length ≤ 1000 ∧ x1 = .ref ll ∧ LstAt H ll lrDt L ∧ L.Nodup ∧ L.length ≤ 1000 ∧ (l'.map LRow.lr).Nodup ∧ (∀ x, x ∈ l'.map LRow.lr ↔ x ∈ L) ∧
  ∀ H', Same H H' → Q (.bl true) H'
abbrev N__law_is_state : List Str := ["value", "forum", "letters", "told", "due", "row"]
theorem sc__law_is_state : FnScope N__law_is_state ["value", "forum", "letters"] (defScope s__law_is_state) := ⟨rfl, rfl, rfl, by decide +kernel, rfl, by decide +kernel, by decide +kernel⟩
theorem ok__law_is_state (T : Txt K mg) : CallOk P w K mg base 4 "_law_is_state" ["value", "forum", "letters"] [] (sp_law_is_state K) := by
  refine call_ok T 85 T.g__law_is_state sc__law_is_state (fun vs H Q E h => ?_) (fun f cdv A outer s H vs Q E hr h => ?_) (fun _ _ _ _ _ _ us hl => match us, hl with | [_, _, _], _ => rfl)
  · obtain ⟨x0, x1, x2, rfl, _⟩ := h
    rfl
  · have nd := sc__law_is_state.nd
    have hu := hu_of hr
    have hu64 := hu64_of hr
    have c_Forum_eq := ok_Forum_eq (P := P) (w := w) (base := base) T
    have c__law_letter_rows := ok__law_letter_rows (P := P) (w := w) (base := base) T
    obtain ⟨x0, x1, x2, rfl, h⟩ := h
    refine ⟨_, (pss_cons (ps_if (PW.pt (pw_or (pt_not (pt_val (pe_callB (C8.call_isC (T.ins T.cls_State (by decide +kernel))) (by rfl) T.b_isinstance boot_isinstance (pa_cons (pv 0) (pa_cons (pe_gref T.g_State) pa_nil))))) (pw_or (pt_not (pt_cmpR (op_eqO c_Forum_eq (hr.mono (by first | decide | omega))) (fldK (K := K) (pv 0) rfl) (pv 1) (nomark _))) (pw_or1 (pt_not (pt_val (pe_callB (isiK (K := K)) (by rfl) T.b_isinstance boot_isinstance (pa_cons (fldK (K := K) (pv 0) rfl) (pa_cons (pe_gty T.b_tuple boot_tuple) pa_nil))))))))) (pss_one (ps_ret pe_bl)) pss_nil) (pss_cons (ps_set (i := 3) nd rfl (Or.inl rfl) (pe_callO c__law_letter_rows (hr.mono (by first | decide | omega)) (pa_cons (fldK (K := K) (pv 0) rfl) pa_nil))) (pss_cons (ps_set (i := 4) nd rfl (Or.inr rfl) (pe_callTy (call_dictN (P := P) (w := w) (hu := hu64)) (by rfl) T.b_dict boot_dict (pa_cons (pe_lc (own := [("row", 5)]) (g := (gName 5)) (tt := tYes) rfl nd (pi_list (pv 2)) (blkOk_by (own := [("row", 5)]) (N := N__law_is_state) (sc := defScope s__law_is_state) (by decide +kernel)) (fun _ _ _ _ _ => (pg_name (i := 5) nd rfl (Or.inl rfl))) (fun _ _ _ _ _ => pts_nil) (fun _ _ _ _ _ => (pe_tup (pa_cons (pv 5) (pa_cons pe_bl pa_nil))))) pa_nil))) (pss_one (ps_ret (pe_and (pe_cmpR op_eq (pe_callB (lenSK (K := K)) (by rfl) T.b_len boot_len (pa_cons (pv 3) pa_nil)) (pe_callB (call_lenN (P := P) (w := w)) (by rfl) T.b_len boot_len (pa_cons (pv 4) pa_nil)) (nomark _)) (pe_and (pe_callB (allK (K := K)) (by rfl) T.b_all boot_all (pa_cons (pe_lc (own := [("row", 5)]) (g := (gName 5)) (tt := tYes) rfl nd (pi_list (pv 3)) (blkOk_by (own := [("row", 5)]) (N := N__law_is_state) (sc := defScope s__law_is_state) (by decide +kernel)) (fun _ _ _ _ _ => (pg_name (i := 5) nd rfl (Or.inl rfl))) (fun _ _ _ _ _ => pts_nil) (fun _ _ _ _ _ => (pe_cmp (pc_nin (P := P) (w := w) hu64 (pv 5) (pv 4))))) pa_nil)) (pe_one (pe_cmpR op_eq (pe_callB (call_lenN (P := P) (w := w)) (by rfl) T.b_len boot_len (pa_cons (pe_callTy (call_dictN (P := P) (w := w) (hu := hu64)) (by rfl) T.b_dict boot_dict (pa_cons (pe_lc (own := [("row", 5)]) (g := (gName 5)) (tt := tYes) rfl nd (pi_list (pv 3)) (blkOk_by (own := [("row", 5)]) (N := N__law_is_state) (sc := defScope s__law_is_state) (by decide +kernel)) (fun _ _ _ _ _ => (pg_name (i := 5) nd rfl (Or.inl rfl))) (fun _ _ _ _ _ => pts_nil) (fun _ _ _ _ _ => (pe_tup (pa_cons (pv 5) (pa_cons pe_bl pa_nil))))) pa_nil)) pa_nil)) (pe_callB (call_lenN (P := P) (w := w)) (by rfl) T.b_len boot_len (pa_cons (pv 4) pa_nil)) (nomark _)))))))))), ?_⟩
    obtain ⟨y, f, l', ll, L, rfl, st, rfl, hf, hat, hl, rfl, lL, nL, hL, nl', hm, q⟩ := h
    have z1001 : (1001 : Nat) < sizeLine := by decide
    have z2 : 2 ≤ sizeLine := by decide
    obtain ⟨dx, D0, t, sp', cn, ac, vo, ba, o, eD0, et⟩ := id st
    obtain ⟨⟨dxf, of⟩, _⟩ := id hf
    refine ⟨_, rfl, _, _, _, rfl, o, _, rfl, iteF ?_⟩
    refine ⟨_, rfl, _, _, _, _, _, rfl, o, T.cls_State, T.na_State_forum, fl_State_forum .., _, rfl, ⟨f.x, f.x, _, _, _, _, rfl, rfl, of, of, rfl, f, rfl, hf⟩, fun H1 s1 => ⟨_, rfl, iteF ?_⟩⟩
    have o1 := s1 _ _ o
    have et1 := s1 _ _ et
    refine ⟨_, rfl, _, _, _, _, _, rfl, o1, T.cls_State, T.na_State_letters, fl_State_letters .., _, _, .type "tuple", _, _, rfl, .ty _, .base (.tup et1), kit_ty k_tup_tup, _, rfl, iteF ?_⟩
    refine ⟨_, rfl, _, _, _, _, _, rfl, o1, T.cls_State, T.na_State_letters, fl_State_letters .., _, rfl, t, l', rfl, et1, fun e he => LRow.same s1 (hat e he), hl, fun H2 r s2 hr lr2 => ?_⟩
    have s12 := s1.trans s2
    obtain ⟨xL, exL, tvL⟩ := lL.same s12
    have lxL : xL.length = L.length := by rw [← tvL.length, List.length_map]
    refine ⟨_, rfl, ll, rfl, ⟨_, SqL.of exL⟩, fun D hD => lc_rel walk_list (fun j l H' => ∃ ps, l = ps.map V.ref ∧ RowPs H' ps (L.take j)) hD (fun H' s => SqL.of (s _ _ exL)) ⟨[], rfl, .nil⟩ ?_ ?_⟩
    · rintro j v l H3 H4 hj hlj s e3 ⟨ps, rfl, hps⟩ ⟨rfl, hv⟩
      obtain ⟨x, hx, tx⟩ := TvAll.mapGet (tvL.keep (tk_same s)) hv
      obtain ⟨b, rfl⟩ := lrDt_ref tx
      refine ⟨rfl, _, rfl, z2, fun u hu => lc_take hD (by omega) hlj (s.trans (same_new hu)) (same_new hu _ _ e3) ⟨ps ++ [u], by simp, ?_⟩⟩
      rw [take_snoc hx]
      exact hps.snoc tx hu e3
    rintro l H3 hlj s3 e3 ⟨ps, rfl, hps⟩
    rw [lxL, List.take_length] at hps
    refine ⟨D, ps, LR, inferInstance, lrDt, kvN L, kLR, rfl, e3, hps.kv, fun d od hd ho nd => ?_⟩
    rw [merge_kvN, mergeNR_nil _ nL] at nd
    have s4 := s3.trans (same_new (o := od) hd)
    obtain ⟨xs, exs, tvs⟩ := lr2.same s4
    have lxs : xs.length = l'.length := by rw [← tvs.length, List.length_map]
    have sA := s12.trans s4
    generalize upd H3 d od = H4 at nd s4 exs tvs sA ⊢
    have lens : l'.length = L.length := by
      have h1 := nd_len nl' fun x hx => (hm x).mp hx
      have h2 := nd_len nL fun x hx => (hm x).mpr hx
      rw [List.length_map] at h1 h2
      omega
    refine ⟨_, rfl, r, _, rfl, .inl (SqL.of exs), _, rfl, d, LR, lrDt, kvN L, kLR, rfl, nd, rfl, ?_⟩
    rw [decide_eq_true (show V.int (xs.length : Nat) = V.int ((kvN L).length : Nat) by rw [kvN_len, lxs, lens])]
    refine ⟨_, rfl, iteT ?_⟩
    refine ⟨_, rfl, r, rfl, ⟨_, SqL.of exs⟩, fun D2 hD2 => lc_rel walk_list (RF fun _ => .bl true) hD2 (fun H' s => SqL.of (s _ _ exs)) rfl ?_ ?_⟩
    · rintro j v l H5 H6 hj hlj s e5 rr ⟨rfl, hv⟩
      obtain ⟨e, he, tx⟩ := TvAll.mapGet (tvs.keep (tk_same s)) hv
      obtain ⟨b, rfl⟩ := lrDt_ref tx
      refine ⟨rfl, _, rfl, _, rfl, d, _, rfl, NGet.of kLR (nd.same s) tx, lc_takeF hD2 (by omega) hlj s e5 rr ?_⟩
      rw [kvN_val, if_pos ((hm _).mp (List.mem_map_of_mem (List.mem_of_getElem? he)))]
      rfl
    intro l5 H5 hl5 s5 e5 r5
    have r5 : l5 = _ := r5
    rw [r5, range_bl] at e5
    refine ⟨D2, _, rfl, SqL.of e5, ?_⟩
    rw [allTrue]
    refine ⟨_, rfl, iteT ?_⟩
    refine ⟨_, rfl, r, rfl, ⟨_, SqL.of (s5 _ _ exs)⟩, fun D3 hD3 => lc_rel walk_list (fun j l H' => ∃ ps, l = ps.map V.ref ∧ RowPs H' ps ((l'.map LRow.lr).take j)) hD3 (fun H' s => SqL.of (s _ _ (s5 _ _ exs))) ⟨[], rfl, .nil⟩ ?_ ?_⟩
    · rintro j v l H6 H7 hj hlj s e6 ⟨ps, rfl, hps⟩ ⟨rfl, hv⟩
      obtain ⟨e, he, tx⟩ := TvAll.mapGet ((tvs.keep (tk_same s5)).keep (tk_same s)) hv
      obtain ⟨b, rfl⟩ := lrDt_ref tx
      refine ⟨rfl, _, rfl, z2, fun u hu => lc_take hD3 (by omega) hlj (s.trans (same_new hu)) (same_new hu _ _ e6) ⟨ps ++ [u], by simp, ?_⟩⟩
      rw [take_snoc (x := e.lr) (by rw [List.getElem?_map, he]; rfl)]
      exact hps.snoc tx hu e6
    rintro l H6 hlj s6 e6 ⟨ps, rfl, hps⟩
    rw [lxs, show (l'.map LRow.lr).take l'.length = l'.map LRow.lr from List.take_of_length_le (by rw [List.length_map]; exact Nat.le_refl _)] at hps
    refine ⟨D3, ps, LR, inferInstance, lrDt, kvN (l'.map LRow.lr), kLR, rfl, e6, hps.kv, fun d2 od2 hd2 ho2 nd2 => ?_⟩
    rw [merge_kvN, mergeNR_nil _ nl'] at nd2
    have s7 := same_new (o := od2) hd2
    refine ⟨d2, LR, lrDt, _, kLR, rfl, nd2, _, rfl, d, LR, lrDt, kvN L, kLR, rfl, ((nd.same s5).same s6).same s7, rfl, ?_⟩
    rw [decide_eq_true (show V.int ((kvN (l'.map LRow.lr)).length : Nat) = V.int ((kvN L).length : Nat) by rw [kvN_len, kvN_len, List.length_map, lens])]
    exact q _ (sA.trans ((s5.trans s6).trans s7))
end
end Lv
set_option maxHeartbeats 4000000
namespace Lv
open PySem PySem.Spec PyProof.Rows L2
def lrText (x : LR) : Str := letterText x.1 x.2.1 x.2.2
theorem text_lr (e : LRow) : e.text = lrText e.lr := rfl
def ULok (names : List Str) (UL : List LR) : Prop := NamesOk names ∧ ∀ x ∈ UL, LrOk names x
theorem lrInj {names : List Str} {UL : List LR} (h : ULok names UL) {x y : LR} (hx : x ∈ UL) (hy : y ∈ UL) (e : lrText x = lrText y) : x = y := by
  have a := h.2 x hx
  have b := h.2 y hy
  obtain ⟨e1, e2, e3⟩ := text_inj_ (h.1.ok _ a.a) (h.1.ok _ b.a) (by have := a.lo; omega) (by have := b.lo; omega) a.s.1 b.s.1 e
  obtain ⟨x1, x2, x3⟩ := x
  obtain ⟨y1, y2, y3⟩ := y
  rw [show x1 = y1 from e1, show x2 = y2 from e2, show x3 = y3 from e3]
theorem nd_of_map {α β : Type} {f : α → β} : ∀ {l : List α}, (l.map f).Nodup → l.Nodup
  | [], _ => List.nodup_nil
  | x :: l, h => by
    obtain ⟨h1, h2⟩ := List.nodup_cons.mp h
    exact List.nodup_cons.mpr ⟨fun q => h1 (List.mem_map_of_mem q), nd_of_map h2⟩
theorem lr_nodup {l : List LRow} (h : (l.map LRow.text).Nodup) : (l.map LRow.lr).Nodup := by
  have e : l.map LRow.text = (l.map LRow.lr).map lrText := by
    rw [List.map_map]
    rfl
  rw [e] at h
  exact nd_of_map h
section
variable {names : List Str} {UL : List LR}
theorem putL_lr (hU : ULok names UL) {L : List LRow} {e : LRow} (hL : ∀ a ∈ L, a.lr ∈ UL) (he : e.lr ∈ UL) (x : LR) : x ∈ (putL L e).map LRow.lr ↔ x ∈ L.map LRow.lr ∨ x = e.lr := by
  have same : ∀ a ∈ L, a.text = e.text → a.lr = e.lr := fun a ha q => lrInj hU (hL a ha) he q
  unfold putL
  by_cases h : e.text ∈ L.map LRow.text
  · rw [if_pos h, List.map_map]
    have e2 : L.map (LRow.lr ∘ fun x => if x.text = e.text then e else x) = L.map LRow.lr := List.map_congr_left fun a ha => by
      show (if a.text = e.text then e else a).lr = a.lr
      by_cases q : a.text = e.text
      · rw [if_pos q, same a ha q]
      · rw [if_neg q]
    rw [e2]
    obtain ⟨a, ha, q⟩ := List.mem_map.mp h
    exact ⟨.inl, fun z => z.elim id fun z => by rw [z, ← same a ha q]; exact List.mem_map_of_mem ha⟩
  · rw [if_neg h, List.map_append, List.mem_append, List.map_cons, List.map_nil, List.mem_singleton]
theorem mergeL_lr (hU : ULok names UL) {l : List LRow} : ∀ {L : List LRow}, (∀ a ∈ L, a.lr ∈ UL) → (∀ a ∈ l, a.lr ∈ UL) → ∀ x : LR, x ∈ (mergeL L l).map LRow.lr ↔ x ∈ L.map LRow.lr ∨ x ∈ l.map LRow.lr := by
  induction l with
  | nil =>
    intro L _ _ x
    show x ∈ L.map LRow.lr ↔ _
    simp
  | cons e l ih =>
    intro L hL hl x
    have he := hl e List.mem_cons_self
    show x ∈ (mergeL (putL L e) l).map LRow.lr ↔ _
    rw [ih (fun a ha => by
      rcases putL_mem ha with ha | rfl
      · exact hL a ha
      · exact he) (fun a ha => hl a (List.mem_cons_of_mem _ ha)), putL_lr hU hL he, List.map_cons, List.mem_cons, or_assoc]
theorem togL_lr (hU : ULok names UL) {M : Str → Str → List LRow} {zs : List Str} (h : ∀ z ∈ zs, ∀ a ∈ M z z, a.lr ∈ UL) (x : LR) : x ∈ (togL M zs).map LRow.lr ↔ ∃ z ∈ zs, x ∈ (M z z).map LRow.lr := by
  have key : ∀ (zs : List Str) (L : List LRow), (∀ a ∈ L, a.lr ∈ UL) → (∀ z ∈ zs, ∀ a ∈ M z z, a.lr ∈ UL) → (x ∈ (zs.foldl (fun L z => mergeL L (M z z)) L).map LRow.lr ↔ x ∈ L.map LRow.lr ∨ ∃ z ∈ zs, x ∈ (M z z).map LRow.lr) := by
    intro zs
    induction zs with
    | nil => intro L _ _; simp
    | cons z zs ih =>
      intro L hL hz
      show x ∈ (zs.foldl (fun L z => mergeL L (M z z)) (mergeL L (M z z))).map LRow.lr ↔ _
      rw [ih _ (fun a ha => (mergeL_mem ha).elim (hL a) (hz z List.mem_cons_self a)) (fun y hy => hz y (List.mem_cons_of_mem _ hy)), mergeL_lr hU hL (hz z List.mem_cons_self)]
      simp only [List.mem_cons, exists_eq_or_imp, or_assoc]
  have := key zs [] (by simp) h
  unfold togL
  simpa using this
end
def MsgRel (ns : List Str) (gp : PMsg) (gn : NMsg) : Prop := gp.m.n = gn.m.n ∧ gp.m.fr = gn.m.fr ∧ gp.m.to = gn.m.to ∧ ∀ z ∈ ns, ∀ x, x ∈ (gp.kl z).map LRow.lr ↔ x ∈ gn.kl z
structure Rel (ns : List Str) (mp : PlM) (mn : NetM) : Prop where
  sent : mp.sent = mn.sent
  S : ∀ i ∈ ns, ∀ j ∈ ns, ∀ x, x ∈ (mp.M i j).map LRow.lr ↔ x ∈ mn.N i j
  ms : Paired (MsgRel ns) mp.ms mn.ms
theorem rel_start {ns : List Str} : Rel ns ⟨fun _ _ => [], [], 0⟩ ⟨fun _ _ => [], [], 0⟩ := ⟨rfl, fun i _ j _ x => by simp, .nil⟩
def msT (ms : List Msg) : List (Int × Str × Str) := ms.map fun m => (m.n, m.fr, m.to)
theorem sortM_T {ms ms' : List Msg} (h : msT ms = msT ms') : sortM ms = sortM ms' := by
  have key : ∀ ms : List Msg, sortM ms = (sortI ((msT ms).map (·.1))).map fun n => match (msT ms).find? fun t => decide (t.1 = n) with
      | some t => (n, t.2.1, t.2.2)
      | none => (n, Str.empty, Str.empty) := fun ms => by
    unfold sortM msT
    rw [List.map_map]
    refine List.map_congr_left fun n _ => ?_
    rw [List.find?_map]
    show _ = match (ms.find? fun m => decide (m.n = n)).map (fun m : Msg => (m.n, m.fr, m.to)) with
      | some t => (n, t.2.1, t.2.2)
      | none => (n, Str.empty, Str.empty)
    cases ms.find? fun m => decide (m.n = n) <;> rfl
  rw [key, key, h]
theorem rel_T {ns : List Str} : ∀ {l : List PMsg} {m : List NMsg}, Paired (MsgRel ns) l m → msT (l.map (·.m)) = msT (m.map (·.m))
  | _, _, .nil => rfl
  | _, _, .cons ⟨h1, h2, h3, _⟩ t => by
    have := rel_T t
    unfold msT at this ⊢
    rw [List.map_cons, List.map_cons, List.map_cons, List.map_cons, this, h1, h2, h3]
theorem rel_find {ns : List Str} {k : Int} : ∀ {l : List PMsg} {m : List NMsg}, Paired (MsgRel ns) l m → ∀ {gp : PMsg}, l.find? (fun g => decide (g.m.n = k)) = some gp → ∃ gn, m.find? (fun g => decide (g.m.n = k)) = some gn ∧ MsgRel ns gp gn
  | _, _, .nil, gp, h => by cases h
  | _, _, .cons (a := a) (b := b) r t, gp, h => by
    by_cases e : a.m.n = k
    · simp only [List.find?_cons, decide_eq_true e] at h
      cases h
      exact ⟨b, by simp only [List.find?_cons, decide_eq_true (r.1.symm.trans e)], r⟩
    · simp only [List.find?_cons, decide_eq_false e] at h
      obtain ⟨gn, h1, h2⟩ := rel_find t h
      exact ⟨gn, by simp only [List.find?_cons, decide_eq_false fun z => e (r.1.trans z)]; exact h1, h2⟩
theorem rel_filter {ns : List Str} {k : Int} : ∀ {l : List PMsg} {m : List NMsg}, Paired (MsgRel ns) l m → Paired (MsgRel ns) (l.filter fun g => decide (g.m.n ≠ k)) (m.filter fun g => decide (g.m.n ≠ k))
  | _, _, .nil => .nil
  | _, _, .cons (a := a) (b := b) r t => by
    by_cases e : a.m.n = k
    · rw [List.filter_cons_of_neg (by simpa using e), List.filter_cons_of_neg (by simpa using r.1.symm.trans e)]
      exact rel_filter t
    · rw [List.filter_cons_of_pos (by simpa using e), List.filter_cons_of_pos (by simpa using fun z => e (r.1.trans z))]
      exact .cons r (rel_filter t)
def StepP (ns : List Str) (m m' : PlM) : Deed → Prop
  | .write z x => ∃ e : LRow, e.lr = x ∧ m' = ⟨setM m.M z z (putL (m.M z z) e), m.ms, m.sent⟩
  | .send a b => ∃ g : PMsg, m' = ⟨m.M, m.ms ++ [g], m.sent + 1⟩ ∧ g.m.n = m.sent + 1 ∧ g.m.fr = a ∧ g.m.to = b ∧ ∀ z ∈ ns, g.kl z = m.M a z
  | .deliver k => ∃ g, m.ms.find? (fun g => decide (g.m.n = k)) = some g ∧ m' = ⟨deliverM m.M g, m.ms, m.sent⟩
  | .lose k => m' = ⟨m.M, m.ms.filter fun g => decide (g.m.n ≠ k), m.sent⟩
theorem Rel.find {ns : List Str} {mp : PlM} {mn : NetM} (h : Rel ns mp mn) {k : Int} {gp : PMsg} (e : mp.ms.find? (fun g => decide (g.m.n = k)) = some gp) : ∃ gn, mn.ms.find? (fun g => decide (g.m.n = k)) = some gn ∧ MsgRel ns gp gn := rel_find h.ms e
theorem rel_step {names ns : List Str} {UL : List LR} {mp mp' : PlM} {mn mn' : NetM} {d : Deed} (hU : ULok names UL) (h : Rel ns mp mn) (gN : ∀ i ∈ ns, ∀ j ∈ ns, ∀ x ∈ mn.N i j, x ∈ UL) (gK : ∀ g ∈ mn.ms, ∀ j ∈ ns, ∀ x ∈ g.kl j, x ∈ UL) (ok : mn.okD ns UL d) (gT : ∀ g ∈ mn.ms, g.m.fr ∈ ns) (sp : StepP ns mp mp' d) (sn : StepN ns mn mn' d) : Rel ns mp' mn' := by
  have ul : ∀ i ∈ ns, ∀ j ∈ ns, ∀ a ∈ mp.M i j, a.lr ∈ UL := fun i hi j hj a ha => gN i hi j hj _ ((h.S i hi j hj _).mp (List.mem_map_of_mem ha))
  cases d with
  | write z x =>
    obtain ⟨e, rfl, rfl⟩ := sp
    obtain rfl : mn' = _ := sn
    obtain ⟨hz, hx⟩ := ok
    refine ⟨h.sent, fun i hi j hj y => ?_, h.ms⟩
    show y ∈ (setM mp.M z z (putL (mp.M z z) e) i j).map LRow.lr ↔ y ∈ setN mn.N z z (putN (mn.N z z) e.lr) i j
    rw [setN_mem]
    unfold setM
    by_cases q : i = z ∧ j = z
    · obtain ⟨rfl, rfl⟩ := q
      rw [if_pos ⟨rfl, rfl⟩, putL_lr hU (ul _ hz _ hz) hx, h.S _ hz _ hz]
      simp
    · rw [if_neg q, h.S i hi j hj]
      exact ⟨.inl, fun r => r.elim id fun r => absurd ⟨r.1, r.2.1⟩ q⟩
  | send a b =>
    obtain ⟨gp, rfl, p1, p2, p3, p4⟩ := sp
    obtain ⟨gn, rfl, n1, n2, n3, n4⟩ := sn
    refine ⟨by show mp.sent + 1 = mn.sent + 1; rw [h.sent], h.S, paired_snoc h.ms ⟨?_, by rw [p2, n2], by rw [p3, n3], fun z hz x => ?_⟩⟩
    · rw [p1, n1, h.sent]
    · rw [p4 z hz, n4 z hz]
      exact h.S a ok.1 z hz x
  | deliver k =>
    obtain ⟨gp, hp, rfl⟩ := sp
    obtain ⟨gn, N', hn, rfl, hN'⟩ := sn
    obtain ⟨gn', hn', r1, r2, r3, r4⟩ := h.find hp
    rw [hn] at hn'
    obtain rfl : gn = gn' := Option.some.inj hn'
    have gm := List.mem_of_find?_eq_some hn
    have kul : ∀ j ∈ ns, ∀ a ∈ gp.kl j, a.lr ∈ UL := fun j hj a ha => gK gn gm j hj _ ((r4 j hj _).mp (List.mem_map_of_mem ha))
    refine ⟨h.sent, fun i hi j hj x => ?_, h.ms⟩
    show x ∈ (deliverM mp.M gp i j).map LRow.lr ↔ x ∈ N' i j
    rw [hN' i hi j hj]
    unfold deliverM
    by_cases q : i = gp.m.to
    · have q' : i = gn.m.to := q.trans r3
      rw [if_pos q]
      by_cases q2 : j = gp.m.to
      · have q2' : j = gn.m.to := q2.trans r3
        have hf : gp.m.fr ∈ ns := by rw [r2]; exact gT gn gm
        rw [if_pos q2, mergeL_lr hU (fun a ha => (mergeL_mem ha).elim (ul i hi j hj a) (kul j hj a)) (kul _ hf), mergeL_lr hU (ul i hi j hj) (kul j hj), h.S i hi j hj, r4 j hj, r4 _ hf, r2, or_assoc]
        constructor
        · rintro (a | a | a)
          · exact .inl a
          · exact .inr ⟨q', .inl a⟩
          · exact .inr ⟨q', .inr ⟨q2', a⟩⟩
        · rintro (a | ⟨_, a | ⟨_, a⟩⟩)
          · exact .inl a
          · exact .inr (.inl a)
          · exact .inr (.inr a)
      · have q2' : ¬ j = gn.m.to := fun z => q2 (z.trans r3.symm)
        rw [if_neg q2, mergeL_lr hU (ul i hi j hj) (kul j hj), h.S i hi j hj, r4 j hj]
        constructor
        · rintro (a | a)
          · exact .inl a
          · exact .inr ⟨q', .inl a⟩
        · rintro (a | ⟨_, a | ⟨a, _⟩⟩)
          · exact .inl a
          · exact .inr a
          · exact absurd a q2'
    · have q' : ¬ i = gn.m.to := fun z => q (z.trans r3.symm)
      rw [if_neg q, h.S i hi j hj]
      exact ⟨.inl, fun a => a.elim id fun b => absurd b.1 q'⟩
  | lose k =>
    obtain rfl : mp' = _ := sp
    obtain rfl : mn' = _ := sn
    exact ⟨h.sent, h.S, rel_filter h.ms⟩
end Lv
set_option maxHeartbeats 4000000
namespace Lv
open PySem PySem.Spec PyProof.Rows L2
theorem places_no2 {v0 v1 v2 v3 : V} : (fl_Places v0 v1 v2 v3).lookup ("write" : Str) = none ∧ (fl_Places v0 v1 v2 v3).lookup ("send" : Str) = none ∧ (fl_Places v0 v1 v2 v3).lookup ("deliver" : Str) = none ∧ (fl_Places v0 v1 v2 v3).lookup ("lose" : Str) = none ∧ (fl_Places v0 v1 v2 v3).lookup ("messages" : Str) = none ∧ (fl_Places v0 v1 v2 v3).lookup ("lacking" : Str) = none ∧ (fl_Places v0 v1 v2 v3).lookup ("place_names" : Str) = none :=
  ⟨fl_Places_no _ _ _ _ (by decide +kernel) (by decide +kernel) (by decide +kernel) (by decide +kernel), fl_Places_no _ _ _ _ (by decide +kernel) (by decide +kernel) (by decide +kernel) (by decide +kernel), fl_Places_no _ _ _ _ (by decide +kernel) (by decide +kernel) (by decide +kernel) (by decide +kernel), fl_Places_no _ _ _ _ (by decide +kernel) (by decide +kernel) (by decide +kernel) (by decide +kernel), fl_Places_no _ _ _ _ (by decide +kernel) (by decide +kernel) (by decide +kernel) (by decide +kernel), fl_Places_no _ _ _ _ (by decide +kernel) (by decide +kernel) (by decide +kernel) (by decide +kernel), fl_Places_no _ _ _ _ (by decide +kernel) (by decide +kernel) (by decide +kernel) (by decide +kernel)⟩
theorem log_small {n : Int} (h0 : 1 ≤ n) (h : n ≤ 10 ^ 24) : n.natAbs.log2 < 1920 := by
  have h1 : n.natAbs < 2 ^ 80 := by
    have : (10 : Int) ^ 24 < 2 ^ 80 := by decide
    omega
  have h2 : n.natAbs ≠ 0 := by omega
  have h3 := (Nat.log2_lt h2).mpr h1
  omega
theorem sortM_fine {ms : List Msg} (h : ∀ m ∈ ms, nameOk m.fr = true ∧ nameOk m.to = true) : ∀ x ∈ sortM ms, PyData.strOk x.2.1 = true ∧ PyData.strOk x.2.2 = true := by
  intro x hx
  obtain ⟨n, hn, rfl⟩ := List.mem_map.mp hx
  cases e : ms.find? fun m => decide (m.n = n) with
  | none =>
    have e0 : PyData.strOk Str.empty = true := by decide +kernel
    exact ⟨e0, e0⟩
  | some m =>
    have := h m (List.mem_of_find?_eq_some e)
    exact ⟨name_sok this.1, name_sok this.2⟩
def PlM.okD (ns : List Str) (UL : List LR) (m : PlM) : Deed → Prop
  | .write z x => z ∈ ns ∧ x ∈ UL
  | .send a b => a ∈ ns ∧ b ∈ ns
  | .deliver k => ∃ g, m.ms.find? (fun g => decide (g.m.n = k)) = some g
  | .lose k => ∃ g, m.ms.find? (fun g => decide (g.m.n = k)) = some g
def retV (m : PlM) : Deed → V
  | .send _ _ => .int ((m.sent + 1 : Nat) : Int)
  | _ => .non
section
variable {P : Program} {w : World} {K : PySem.W.Frag} {mg : Str → Option Value} {base : Heap} {U ks : List Str}
def sp_law_net_do (K : PySem.W.Frag) : Sp := sp2 fun v x0 H Q => ∃ (U ks : List Str) (A : PlA) (m : PlM) (d : Deed) (names : List Str) (UL : List LR), v = .ref A.p ∧ A.Ok U ks ∧ PlAt K U ks H A m ∧ Tv H d.dt x0 ∧ ULok names UL ∧ U = UL.map lrText ∧ (∀ z ∈ names, z ∈ ks) ∧ m.okD A.ns UL d ∧ m.sent ≤ 1000 ∧
  ∀ (H' : Hp) (m' : PlM), But A.W H H' → PlAt K U ks H' A m' → StepP A.ns m m' d → (∀ b, A.FP m' b → A.FP m b ∨ H b = none) → Q (retV m d) H'
abbrev N__law_net_do : List Str := ["places", "deed"]
theorem sc__law_net_do : FnScope N__law_net_do ["places", "deed"] (defScope s__law_net_do) := ⟨rfl, rfl, rfl, by decide +kernel, rfl, by decide +kernel, by decide +kernel⟩
theorem ok__law_net_do (T : Txt K mg) : CallOk P w K mg base 10 "_law_net_do" ["places", "deed"] [] (sp_law_net_do K) := by
  refine call_ok T 88 T.g__law_net_do sc__law_net_do (fun vs H Q E h => ?_) (fun f cdv A outer s H vs Q E hr h => ?_) (fun _ _ _ _ _ _ us hl => match us, hl with | [_, _], _ => rfl)
  · obtain ⟨x0, x1, rfl, _⟩ := h
    rfl
  · have nd := sc__law_net_do.nd
    have hu := hu_of hr
    have hu64 := hu64_of hr
    have c_Letter := ok_Letter_init (P:=P) (w:=w) (base:=base) T
    have c_Places_write := ok_Places_write (P:=P) (w:=w) (base:=base) T
    have c_Places_send := ok_Places_send (P:=P) (w:=w) (base:=base) T
    have c_Places_deliver := ok_Places_deliver (P:=P) (w:=w) (base:=base) T
    have c_Places_lose := ok_Places_lose (P:=P) (w:=w) (base:=base) T
    obtain ⟨x0, x1, rfl, h⟩ := h
    refine ⟨_, (pss_cons (ps_if (pt_cmpR op_eq (pe_ix (ixT (K := K)) (pv 1) pe_int (fun _ _ => rfl)) pe_str (nomark _)) (pss_one (ps_ret (pe_methO c_Places_write (hr.mono (by first | decide | omega)) (pv 0) (pa_cons (pe_ix (ixT (K := K)) (pv 1) pe_int (fun _ _ => rfl)) (pa_cons (pe_makeO c_Letter (hr.mono (by first | decide | omega)) (pa_cons (pe_ix (ixT (K := K)) (pe_ix (ixT (K := K)) (pv 1) pe_int (fun _ _ => rfl)) pe_int (fun _ _ => rfl)) (pa_cons (pe_ix (ixT (K := K)) (pe_ix (ixT (K := K)) (pv 1) pe_int (fun _ _ => rfl)) pe_int (fun _ _ => rfl)) (pa_cons (pe_ix (ixT (K := K)) (pe_ix (ixT (K := K)) (pv 1) pe_int (fun _ _ => rfl)) pe_int (fun _ _ => rfl)) pa_nil)))) pa_nil))))) pss_nil) (pss_cons (ps_if (pt_cmpR op_eq (pe_ix (ixT (K := K)) (pv 1) pe_int (fun _ _ => rfl)) pe_str (nomark _)) (pss_one (ps_ret (pe_methO c_Places_send (hr.mono (by first | decide | omega)) (pv 0) (pa_cons (pe_ix (ixT (K := K)) (pv 1) pe_int (fun _ _ => rfl)) (pa_cons (pe_ix (ixT (K := K)) (pv 1) pe_int (fun _ _ => rfl)) pa_nil))))) pss_nil) (pss_one (ps_ret (pe_ifExp (pt_cmpR op_eq (pe_ix (ixT (K := K)) (pv 1) pe_int (fun _ _ => rfl)) pe_str (nomark _)) (pe_methO c_Places_deliver (hr.mono (by first | decide | omega)) (pv 0) (pa_cons (pe_ix (ixT (K := K)) (pv 1) pe_int (fun _ _ => rfl)) pa_nil)) (pe_methO c_Places_lose (hr.mono (by first | decide | omega)) (pv 0) (pa_cons (pe_ix (ixT (K := K)) (pv 1) pe_int (fun _ _ => rfl)) pa_nil))))))), ?_⟩
    obtain ⟨U, ks, A1, m, d, names, UL, rfl, ok, at0, td, hUL, hU, hks, okd, hm, q⟩ := h
    obtain ⟨dp, o⟩ := at0.op
    cases d with
    | write z x =>
      obtain ⟨hz, hx⟩ := okd
      have xo := hUL.2 x hx
      obtain ⟨t, xs, rfl, et, tvs⟩ := td
      obtain ⟨y, rfl, ty⟩ : ∃ y, xs = [.str "write", .str z, y] ∧ Tv H (lrDt x) y := by
        match xs, tvs with
        | [x1, x2, x3], ⟨h1, h2, h3, _⟩ => exact ⟨x3, by rw [show x1 = V.str "write" from h1, show x2 = .str z from h2], h3⟩
      obtain ⟨b, rfl⟩ := lrDt_ref ty
      obtain ⟨sv, eb, ts⟩ := lr_at ty
      refine ⟨_, rfl, _, _, _, _, rfl, rfl, SqT.of et, atI_nat (j := 0) rfl, rfl, _, rfl, iteT ?_⟩
      refine ⟨_, rfl, A1.p, dp, _, rfl, o, places_no2.1, _, rfl, _, _, _, _, rfl, rfl, SqT.of et, atI_nat (j := 1) rfl, _, rfl, _, _, _, _, rfl, rfl, SqT.of et, atI_nat (j := 2) rfl, _, _, _, _, rfl, rfl, SqT.of eb, atI_nat (j := 0) rfl, _, rfl, _, _, _, _, rfl, rfl, SqT.of et, atI_nat (j := 2) rfl, _, _, _, _, rfl, rfl, SqT.of eb, atI_nat (j := 1) rfl, _, rfl, _, _, _, _, rfl, rfl, SqT.of et, atI_nat (j := 2) rfl, _, _, _, _, rfl, rfl, SqT.of eb, atI_nat (j := 2) rfl, fun a da ha hda hne => ?_⟩
      have s2 := same_two (o := .own a) (C := He.ga K "Letter") ha hda
      refine ⟨_, _, _, _, rfl, a, da, x.1, x.2.1, x.2.2, rfl, upd_same, rfl, hUL.1.ok _ xo.a, rfl, xo.lo, ts.keep (tk_same s2), xo.s.1, fun H1 b1 hlt => ⟨rfl, ?_⟩⟩
      have s1 : Same H H1 := same_made ha hda b1
      refine write_of (e := ⟨a, x.1, x.2.1, x.2.2⟩) ok (at0.same s1) hz ⟨⟨hlt, hUL.1.ok _ xo.a, log_small xo.lo xo.hi, xo.s.1⟩, ?_, hks _ xo.a, fun n hn => hks _ (xo.s.2 n hn)⟩ fun H' b at' => q H' _ ((but_same s1).trans b) at' ⟨⟨a, x.1, x.2.1, x.2.2⟩, rfl, rfl⟩ fun b hb => .inl hb
      rw [hU]
      exact List.mem_map_of_mem hx
    | send a b =>
      obtain ⟨ha, hb⟩ := okd
      obtain ⟨t, xs, rfl, et, tvs⟩ := td
      obtain rfl : xs = [.str "send", .str a, .str b] := by
        match xs, tvs with
        | [x1, x2, x3], ⟨h1, h2, h3, _⟩ => rw [show x1 = V.str "send" from h1, show x2 = .str a from h2, show x3 = .str b from h3]
      refine ⟨_, rfl, _, _, _, _, rfl, rfl, SqT.of et, atI_nat (j := 0) rfl, rfl, _, rfl, iteF ⟨_, rfl, _, _, _, _, rfl, rfl, SqT.of et, atI_nat (j := 0) rfl, rfl, _, rfl, iteT ?_⟩⟩
      exact ⟨_, rfl, A1.p, dp, _, rfl, o, places_no2.2.1, _, rfl, _, _, _, _, rfl, rfl, SqT.of et, atI_nat (j := 1) rfl, _, rfl, _, _, _, _, rfl, rfl, SqT.of et, atI_nat (j := 2) rfl, _, _, _, rfl, U, ks, A1, m, a, b, rfl, ok, at0, rfl, ha, rfl, hb, hm, fun H' g bt at' g1 g2 g3 g4 fp => q H' _ bt at' ⟨g, rfl, g1, g2, g3, g4⟩ fp⟩
    | deliver k =>
      obtain ⟨g, hg⟩ := okd
      obtain ⟨t, xs, rfl, et, tvs⟩ := td
      obtain rfl : xs = [.str "deliver", .int k] := by
        match xs, tvs with
        | [x1, x2], ⟨h1, h2, _⟩ => rw [show x1 = V.str "deliver" from h1, show x2 = .int k from h2]
      refine ⟨_, rfl, _, _, _, _, rfl, rfl, SqT.of et, atI_nat (j := 0) rfl, rfl, _, rfl, iteF ⟨_, rfl, _, _, _, _, rfl, rfl, SqT.of et, atI_nat (j := 0) rfl, rfl, _, rfl, iteF ⟨_, rfl, _, _, _, _, rfl, rfl, SqT.of et, atI_nat (j := 0) rfl, rfl, _, rfl, iteT ?_⟩⟩⟩
      exact ⟨_, rfl, A1.p, dp, _, rfl, o, places_no2.2.2.1, _, rfl, _, _, _, _, rfl, rfl, SqT.of et, atI_nat (j := 1) rfl, _, _, rfl, U, ks, A1, m, k, g, rfl, ok, at0, rfl, hg, fun H' bt at' => q H' _ bt at' ⟨g, hg, rfl⟩ fun b hb => .inl hb⟩
    | lose k =>
      obtain ⟨g, hg⟩ := okd
      obtain ⟨t, xs, rfl, et, tvs⟩ := td
      obtain rfl : xs = [.str "lose", .int k] := by
        match xs, tvs with
        | [x1, x2], ⟨h1, h2, _⟩ => rw [show x1 = V.str "lose" from h1, show x2 = .int k from h2]
      refine ⟨_, rfl, _, _, _, _, rfl, rfl, SqT.of et, atI_nat (j := 0) rfl, rfl, _, rfl, iteF ⟨_, rfl, _, _, _, _, rfl, rfl, SqT.of et, atI_nat (j := 0) rfl, rfl, _, rfl, iteF ⟨_, rfl, _, _, _, _, rfl, rfl, SqT.of et, atI_nat (j := 0) rfl, rfl, _, rfl, iteF ?_⟩⟩⟩
      refine ⟨_, rfl, A1.p, dp, _, rfl, o, places_no2.2.2.2.1, _, rfl, _, _, _, _, rfl, rfl, SqT.of et, atI_nat (j := 1) rfl, lose_of ok at0 hg fun H' bt at' => q H' _ bt at' rfl fun b hb => ?_⟩
      rcases hb with hb | hb | hb | ⟨g, hg, hb⟩
      · exact .inl (.inl hb)
      · exact .inl (.inr (.inl hb))
      · exact .inl (.inr (.inr (.inl hb)))
      · exact .inl (.inr (.inr (.inr ⟨g, (List.mem_filter.mp hg).1, hb⟩)))
structure Both (P : Program) (w : World) (K : PySem.W.Frag) (U ks names : List Str) (UL : List LR) (H : Hp) (A : PlA) (mp : PlM) (B : NetA) (mn : NetM) : Prop where
  pk : A.Ok U ks
  pa : PlAt K U ks H A mp
  nk : B.Ok UL
  na : NetAt P w UL H B mn
  ns : B.ns = A.ns
  rel : Rel A.ns mp mn
  ul : ULok names UL
  u : U = UL.map lrText
  nks : ∀ z ∈ names, z ∈ ks
  dis : ∀ b, A.FP mp b → ¬ B.FP mn b
theorem Both.same {UL : List LR} {names : List Str} {H H' : Hp} {A : PlA} {mp : PlM} {B : NetA} {mn : NetM} (s : Same H H') (h : Both P w K U ks names UL H A mp B mn) : Both P w K U ks names UL H' A mp B mn := ⟨h.pk, h.pa.same s, h.nk, h.na.same s, h.ns, h.rel, h.ul, h.u, h.nks, h.dis⟩
def sp_law_net_right (P : Program) (w : World) (K : PySem.W.Frag) : Sp := sp4 fun v x0 x1 x2 H Q => ∃ (U ks names : List Str) (UL : List LR) (A : PlA) (mp : PlM) (B : NetA) (mn : NetM) (i : Str), v = .ref A.p ∧ x0 = .ref A.f.x ∧ x1 = .ref B.p ∧ x2 = .str i ∧ Both P w K U ks names UL H A mp B mn ∧ i ∈ A.ns ∧ mp.sent ≤ 1000 ∧ ∀ H', Same H H' → Q (.bl true) H'
end
end Lv
set_option maxHeartbeats 4000000
namespace Lv
open PySem PySem.Spec PyProof.Rows L2
def tIfC (t : TT) (ta tb : TS) : TS := fun D σ H => ∃ J : Bool → Hp → Prop, t σ H J ∧ (∀ H', J true H' → ta D σ H') ∧ ∀ H', J false H' → tb D σ H'
theorem ps_ifC {X : Cx} {c : Expr} {a b : List Stmt} {pos : Pos} {tc : TT} {t u : TS} (hc : PT X c tc) (ha : PSs X a t) (hb : PSs X b u) : PS X (.If c a b pos) (tIfC tc t u) := by
  refine ⟨fun pins s σ H D I h => ?_⟩
  obtain ⟨J, h0, h1, h2⟩ := h
  refine wpAny_If (thn (hc.run pins s σ H J I h0) fun d s1 ⟨H1, I1, q1⟩ => ?_)
  cases d with
  | true => exact ha.run pins s1 σ H1 D I1 (h1 _ q1)
  | false => exact hb.run pins s1 σ H1 D I1 (h2 _ q1)
structure SW where
  sent : Nat
  way : List Int
def stepSW (s : SW) : Deed → SW
  | .write _ _ => s
  | .send _ _ => ⟨s.sent + 1, s.way ++ [(s.sent : Int) + 1]⟩
  | .deliver _ => s
  | .lose k => ⟨s.sent, s.way.filter fun j => decide (j ≠ k)⟩
def okSW (ns : List Str) (UL : List LR) (s : SW) : Deed → Prop
  | .write z x => z ∈ ns ∧ x ∈ UL
  | .send a b => a ∈ ns ∧ b ∈ ns
  | .deliver k => k ∈ s.way
  | .lose k => k ∈ s.way
def runSW (ds : List Deed) : SW := ds.foldl stepSW ⟨0, []⟩
theorem runSW_snoc (ds : List Deed) (d : Deed) : runSW (ds ++ [d]) = stepSW (runSW ds) d := by
  unfold runSW
  rw [List.foldl_append]
  rfl
def StoryOk (ns : List Str) (UL : List LR) (ds : List Deed) : Prop := ∀ i d, ds[i]? = some d → okSW ns UL (runSW (ds.take i)) d
theorem StoryOk.snoc {ns : List Str} {UL : List LR} {ds : List Deed} {d : Deed} (h : StoryOk ns UL ds) (hd : okSW ns UL (runSW ds) d) : StoryOk ns UL (ds ++ [d]) := fun i e he => by
  by_cases q : i < ds.length
  · rw [List.getElem?_append_left q] at he
    rw [List.take_append_of_le_length (by omega)]
    exact h i e he
  · rw [List.getElem?_append_right (by omega)] at he
    have h2 : i - ds.length < 1 := by
      have := (List.getElem?_eq_some_iff.mp he).1
      simpa using this
    have ei : i = ds.length := by omega
    subst ei
    simp at he
    subst he
    rw [List.take_append_of_le_length (Nat.le_refl _), List.take_length]
    exact hd
theorem sent_le : ∀ ds : List Deed, (runSW ds).sent ≤ ds.length := by
  refine rev_ind (Nat.le_refl _) fun ds d ih => ?_
  rw [runSW_snoc, List.length_append]
  cases d with
  | write z x => show (runSW ds).sent ≤ _; simp; omega
  | send a b => show (runSW ds).sent + 1 ≤ _; simp; omega
  | deliver k => show (runSW ds).sent ≤ _; simp; omega
  | lose k => show (runSW ds).sent ≤ _; simp; omega
theorem erase_filter : ∀ {l : List Int} (_ : l.Nodup) (i : Nat) (h : i < l.length), l.eraseIdx i = l.filter fun j => decide (j ≠ l[i])
  | x :: l, hn, 0, h => by
    obtain ⟨h1, h2⟩ := List.nodup_cons.mp hn
    show l = (x :: l).filter fun j => decide (j ≠ x)
    rw [List.filter_cons_of_neg (by simp), List.filter_eq_self.mpr fun y hy => by
      have : y ≠ x := fun e => h1 (e ▸ hy)
      simpa using this]
  | x :: l, hn, i + 1, h => by
    obtain ⟨h1, h2⟩ := List.nodup_cons.mp hn
    have hi : i < l.length := by simpa using h
    show x :: l.eraseIdx i = (x :: l).filter fun j => decide (j ≠ l[i])
    have ne : x ≠ l[i] := fun e => h1 (by rw [e]; exact List.getElem_mem hi)
    rw [List.filter_cons_of_pos (by simpa using ne), erase_filter h2 i hi]
theorem eraseIdx_map' {α β : Type} (f : α → β) : ∀ (l : List α) (i : Nat), (l.map f).eraseIdx i = (l.eraseIdx i).map f
  | [], _ => rfl
  | _ :: _, 0 => rfl
  | x :: l, i + 1 => by
    show f x :: (l.map f).eraseIdx i = f x :: (l.eraseIdx i).map f
    rw [eraseIdx_map' f l i]
def DpInts (ns : List Int) : PyData := .list (ns.map PyData.int)
theorem dp_ints {K : PySem.W.Frag} {H : Hp} {a : Addr} {ns : List Int} (h : H a = some (.lst (ns.map V.int))) : Dp K H (.ref a) (DpInts ns) := by
  refine .lst (SqL.of h) ?_
  have : ∀ ns : List Int, DpAll K H (ns.map V.int) (ns.map PyData.int) := by
    intro ns
    induction ns with
    | nil => exact .nil
    | cons n ns ih => exact .cons (.int n) ih
  exact this ns
theorem shaped_ints (ns : List Int) : SeqAt.shaped (DpInts ns) = true := by
  have h1 : PyData.canLayAll0 (ns.map PyData.int) = true := layAll fun d hd => by
    obtain ⟨n, _, rfl⟩ := List.mem_map.mp hd
    rfl
  have h2 : PyData.depthAll (ns.map PyData.int) ≤ 0 := depAll fun d hd => by
    obtain ⟨n, _, rfl⟩ := List.mem_map.mp hd
    exact Nat.le_refl _
  unfold SeqAt.shaped
  rw [Bool.and_eq_true]
  exact ⟨h1, decide_eq_true (by show PyData.depthAll (ns.map PyData.int) + 1 ≤ 64; omega)⟩
section
variable {P : Program} {w : World} {K : PySem.W.Frag} {mg : Str → Option Value} {base : Heap} {UL : List LR}
def sp_law_net_story : Sp := sp4 fun v x0 x1 x2 H Q => ∃ (UL : List LR) (a : PenA) (n : Nat) (l ll : Addr) (ns : List Str) (many : Nat), v = .ref a.p ∧ PenAt H a n ∧ n + 2000 ≤ 1000000 ∧ x0 = .ref l ∧ H l = some (.lst (ns.map V.str)) ∧ 1 ≤ ns.length ∧ ns.length ≤ 10 ∧ x1 = .ref ll ∧ LstAt H ll lrDt UL ∧ 1 ≤ UL.length ∧ UL.length ≤ 1000 ∧ x2 = .int many ∧ many ≤ 100 ∧
  ∀ (H' : Hp) (n' : Nat) (r : Addr) (ds : List Deed), But1 a.p H H' → PenAt H' a n' → n' ≤ n + 500 → H r = none → LstAt H' r Deed.dt ds → StoryOk ns UL ds → ds.length ≤ 200 → Q (.ref r) H'
abbrev N__law_net_story : List Str := ["pen", "names", "letters", "many", "deeds", "sent", "way", "lap", "kind"]
theorem sc__law_net_story : FnScope N__law_net_story ["pen", "names", "letters", "many"] (defScope s__law_net_story) := ⟨rfl, rfl, rfl, by decide +kernel, rfl, by decide +kernel, by decide +kernel⟩
theorem ok__law_net_story (T : Txt K mg) : CallOk P w K mg base 3 "_law_net_story" ["pen", "names", "letters", "many"] [] sp_law_net_story := by
  refine call_ok T 89 T.g__law_net_story sc__law_net_story (fun vs H Q E h => ?_) (fun f cdv A outer s H vs Q E hr h => ?_) (fun _ _ _ _ _ _ us hl => match us, hl with | [_, _, _, _], _ => rfl)
  · obtain ⟨x0, x1, x2, x3, rfl, _⟩ := h
    rfl
  · have nd := sc__law_net_story.nd
    have hu := hu_of hr
    have hu64 := hu64_of hr
    have c__law_pick := ok__law_pick (P := P) (w := w) (base := base) T
    have c__law_draw := ok__law_draw (P := P) (w := w) (base := base) T
    obtain ⟨x0, x1, x2, x3, rfl, h⟩ := h
    refine ⟨_, (pss_cons (ps_par3 (i := 4) (j := 5) (l := 6) rfl nd rfl rfl rfl (by decide) (by decide) (by decide) rfl rfl rfl (pa_cons (pe_lst pa_nil) (pa_cons pe_int (pa_cons (pe_lst pa_nil) pa_nil))) (by rfl)) (pss_cons (ps_for PassesOwn.never rfl (pi_range1 (by rfl) T.b_range (pa_cons (pv 3) pa_nil)) (pg_name (i := 7) nd rfl (Or.inl rfl)) (pss_cons (ps_set (i := 8) nd rfl (Or.inl rfl) (pe_callO c__law_draw (hr.mono (by first | decide | omega)) (pa_cons (pv 0) (pa_cons pe_int pa_nil)))) (pss_one (ps_if (pt_cmpR op_lt (pv 8) pe_int (nomark _)) (pss_one (ps_expr (pe_bm PySem.F.plainAttrs_list PySem.F.slot_list_append PySem.F.type_list_append mt_append (pv 4) (pa_cons (pe_tup (pa_cons pe_str (pa_cons (pe_callO c__law_pick (hr.mono (by first | decide | omega)) (pa_cons (pv 0) (pa_cons (pv 1) pa_nil))) (pa_cons (pe_callO c__law_pick (hr.mono (by first | decide | omega)) (pa_cons (pv 0) (pa_cons (pv 2) pa_nil))) pa_nil)))) pa_nil)))) (pss_one (ps_ifC (PW.pt (pw_or (pt_cmpR op_lt (pv 8) pe_int (nomark _)) (pw_or1 (pt_cmpR (eqDK (K := K) hu64) (pv 6) (pe_lst pa_nil) (nomark _))))) (pss_cons (ps_set (i := 5) nd rfl (Or.inl rfl) (pe_op op_add (pv 5) pe_int)) (pss_cons (ps_expr (pe_bm PySem.F.plainAttrs_list PySem.F.slot_list_append PySem.F.type_list_append mt_append (pv 6) (pa_cons (pv 5) pa_nil))) (pss_cons (ps_expr (pe_bm PySem.F.plainAttrs_list PySem.F.slot_list_append PySem.F.type_list_append mt_append (pv 4) (pa_cons (pe_tup (pa_cons pe_str (pa_cons (pe_callO c__law_pick (hr.mono (by first | decide | omega)) (pa_cons (pv 0) (pa_cons (pv 1) pa_nil))) (pa_cons (pe_callO c__law_pick (hr.mono (by first | decide | omega)) (pa_cons (pv 0) (pa_cons (pv 1) pa_nil))) pa_nil)))) pa_nil))) (pss_one (ps_if (pt_cmpR op_eq (pe_callO c__law_draw (hr.mono (by first | decide | omega)) (pa_cons (pv 0) (pa_cons pe_int pa_nil))) pe_int (nomark _)) (pss_one (ps_expr (pe_bm PySem.F.plainAttrs_list PySem.F.slot_list_append PySem.F.type_list_append mt_append (pv 4) (pa_cons (pe_tup (pa_cons pe_str (pa_cons (pv 5) pa_nil))) pa_nil)))) pss_nil))))) (pss_one (ps_if (pt_cmpR op_lt (pv 8) pe_int (nomark _)) (pss_one (ps_expr (pe_bm PySem.F.plainAttrs_list PySem.F.slot_list_append PySem.F.type_list_append mt_append (pv 4) (pa_cons (pe_tup (pa_cons pe_str (pa_cons (pe_callO c__law_pick (hr.mono (by first | decide | omega)) (pa_cons (pv 0) (pa_cons (pv 6) pa_nil))) pa_nil))) pa_nil)))) (pss_one (ps_expr (pe_bm PySem.F.plainAttrs_list PySem.F.slot_list_append PySem.F.type_list_append mt_append (pv 4) (pa_cons (pe_tup (pa_cons pe_str (pa_cons (pe_bm PySem.F.plainAttrs_list PySem.F.slot_list_pop PySem.F.type_list_pop mt_popAt (pv 6) (pa_cons (pe_callO c__law_draw (hr.mono (by first | decide | omega)) (pa_cons (pv 0) (pa_cons (pe_callB (lenSK (K := K)) (by rfl) T.b_len boot_len (pa_cons (pv 6) pa_nil)) pa_nil))) pa_nil)) pa_nil))) pa_nil)))))))))))) (pss_one (ps_ret (pv 4))))), ?_⟩
    obtain ⟨UL, a, n, l, ll, ns, many, rfl, pa, hn, rfl, el, l1, l10, rfl, lU, u1, u2, rfl, hm, q⟩ := h
    have z1001 : (1001 : Nat) < sizeLine := by decide
    have z2 : 2 ≤ sizeLine := by decide
    have z3 : 3 ≤ sizeLine := by decide
    obtain ⟨xU, eU, tvU⟩ := id lU
    have lxU : xU.length = UL.length := by rw [← tvU.length, List.length_map]
    refine ⟨by decide, fun c hc => ⟨by decide, fun y hy => ⟨_, _, _, rfl, ?_⟩⟩⟩
    have s1 := (same_new (o := .lst []) hc).trans (same_new (o := .lst []) hy)
    have cy : c ≠ y := fun z => by rw [← z, upd_same] at hy; cases hy
    have y0 : H y = none := by
      rw [upd_ne cy.symm] at hy
      exact hy
    have ec1 : (upd (upd H c (.lst [])) y (.lst [])) c = some (.lst []) := by rw [upd_ne cy]; exact upd_same
    have ey1 : (upd (upd H c (.lst [])) y (.lst [])) y = some (.lst []) := upd_same
    generalize upd (upd H c (.lst [])) y (.lst []) = H1 at s1 ec1 ey1 ⊢
    refine ⟨_, rfl, many, rfl, by omega, by omega, for_it walk_range (fun i σ H2 => ∃ (v7 v8 : Option V) (n2 : Nat) (ds : List Deed), σ = [some (.ref a.p), some (.ref l), some (.ref ll), some (.int many), some (.ref c), some (.int (runSW ds).sent), some (.ref y), v7, v8] ∧ But1 a.p H H2 ∧ PenAt H2 a n2 ∧ n2 ≤ n + 4 * i ∧ LstAt H2 c Deed.dt ds ∧ H2 y = some (.lst ((runSW ds).way.map V.int)) ∧ StoryOk ns UL ds ∧ ds.length ≤ 2 * i ∧ (runSW ds).way.Nodup ∧ (∀ k ∈ (runSW ds).way, k ≤ (runSW ds).sent) ∧ (runSW ds).way.length ≤ i)
      ⟨_, _, n, [], rfl, but_same s1, pa.same s1, by omega, ⟨_, ec1, trivial⟩, ey1, (fun i d h => by cases h), Nat.le_refl _, List.nodup_nil, (fun k hk => by cases hk), Nat.le_refl _⟩ (fun _ _ _ _ _ => trivial) ?_ ?_⟩
    · rintro i x σ H2 H3 hi ⟨v7, v8, n2, ds, rfl, b2, pa2, hn2, ld, ey2, so, hl, nw, hw, lw⟩ ⟨rfl, rfl⟩
      obtain ⟨xd, exd, tvd⟩ := id ld
      have lxd : xd.length = ds.length := by rw [← tvd.length, List.length_map]
      refine ⟨_, rfl, _, _, rfl, _, _, _, rfl, pa2, by omega, rfl, by omega, by omega, fun H4 k4 b4 pa4 k40 k41 => ⟨_, rfl, _, _, rfl, rfl, _, rfl, iteB (fun _ => ?_) (fun _ => ?_)⟩⟩
      · -- a letter is written
        have b04 := b2.trans b4
        refine ⟨_, rfl, .inl ⟨rfl, _, SqL.of (pa2.lst b4 exd)⟩, _, rfl, _, rfl, pick_strs pa4 (by omega) (pa.lst b04 el) (by omega) (by omega) fun H5 z5 b5 pa5 hz5 => ⟨_, rfl, _, rfl, pick_of pa5 (by omega) (pa.lst (b04.trans b5) eU) (by omega) (by omega) fun H6 y6 b6 pa6 hy6 => ⟨z3, fun t ht => ?_⟩⟩⟩
        have b06 := (b04.trans b5).trans b6
        obtain ⟨dx, hdx, tx⟩ := TvAll.mem (tvU.keep (pa.tk b06)) hy6
        obtain ⟨x, hx, rfl⟩ := List.mem_map.mp hdx
        have s7 := same_new (o := .tup [.str "write", .str z5, y6]) ht
        have bA := ((b4.trans b5).trans b6).trans (but_same s7)
        obtain ⟨xs, ex, lx, ld2, _⟩ := (ld.pen pa2 bA).snoc (f := Deed.dt) (x := .write z5 x) (y := .ref t) ⟨t, _, rfl, upd_same, rfl, rfl, tx.keep (tk_same s7), trivial⟩
        have er : runSW (ds ++ [.write z5 x]) = runSW ds := runSW_snoc _ _
        refine ⟨c, _, _, rfl, rfl, ex, by omega, _, _, n2 + 3, ds ++ [.write z5 x], by rw [er]; rfl, (b2.trans bA).upd_free hc, pa.upd (pa6.same s7) hc, by omega, ld2, by rw [er, upd_ne cy.symm]; exact pa2.lst bA ey2, so.snoc (d := .write z5 x) ⟨hz5, hx⟩, by simp; omega, by rw [er]; exact nw, by rw [er]; exact hw, by rw [er]; omega⟩
      · have ey4 := pa2.lst b4 ey2
        have ld4 := ld.pen pa2 b4
        refine ⟨fun b H5 => But1 a.p H H5 ∧ PenAt H5 a (n2 + 1) ∧ LstAt H5 c Deed.dt ds ∧ H5 y = some (.lst ((runSW ds).way.map V.int)) ∧ (b = false → (runSW ds).way ≠ []), ?_, ?_, ?_⟩
        · refine ⟨_, rfl, _, _, rfl, rfl, _, rfl, iteB (fun _ => ⟨b2.trans b4, pa4, ld4, ey4, fun z => by cases z⟩) (fun _ => ?_)⟩
          refine ⟨_, rfl, by decide, fun e he => ?_⟩
          have s5 := same_new (o := .lst []) he
          refine ⟨DpInts (runSW ds).way, DpInts [], dp_ints (s5 _ _ ey4), dp_ints upd_same, shaped_ints _, shaped_ints _, _, rfl, ⟨(b2.trans b4).trans (but_same s5), pa4.same s5, ld4.same s5, s5 _ _ ey4, fun z q => ?_⟩⟩
          rw [q] at z
          cases z
        · -- a message is sent
          rintro H5 ⟨b5, pa5, ld5, ey5, _⟩
          refine ⟨_, rfl, _, _, rfl, rfl, _, rfl, .inl ⟨rfl, _, SqL.of ey5⟩, _, rfl, y, _, _, rfl, rfl, ey5, by rw [List.length_map]; omega, ?_⟩
          obtain ⟨xd5, exd5, tvd5⟩ := id ld5
          have k6 : Tk H5 (upd H5 y (.lst ((runSW ds).way.map V.int ++ [.int ((runSW ds).sent + 1)]))) := tk_mut ey5 (by intro _ z; cases z)
          have ey6 : (upd H5 y (.lst ((runSW ds).way.map V.int ++ [.int ((runSW ds).sent + 1)]))) y = some (.lst (((runSW ds).way ++ [((runSW ds).sent : Int) + 1]).map V.int)) := by rw [upd_same, List.map_append]; rfl
          have ld6 : LstAt (upd H5 y (.lst ((runSW ds).way.map V.int ++ [.int ((runSW ds).sent + 1)]))) c Deed.dt ds := ld5.keep k6 fun xs e => by rw [upd_ne cy]; exact e
          have b6 : But1 a.p H (upd H5 y (.lst ((runSW ds).way.map V.int ++ [.int ((runSW ds).sent + 1)]))) := b5.upd_free y0
          have pa6 := pa.upd pa5 y0 (o := .lst ((runSW ds).way.map V.int ++ [.int ((runSW ds).sent + 1)]))
          generalize upd H5 y (.lst ((runSW ds).way.map V.int ++ [.int ((runSW ds).sent + 1)])) = H6 at k6 ey6 ld6 b6 pa6 ⊢
          obtain ⟨xd6, exd6, _⟩ := id ld6
          refine ⟨_, rfl, .inl ⟨rfl, _, SqL.of exd6⟩, _, rfl, _, rfl, pick_strs pa6 (by omega) (pa.lst b6 el) (by omega) (by omega) fun H7 z7 b7 pa7 hz7 => ⟨_, rfl, _, rfl, pick_strs pa7 (by omega) (pa.lst (b6.trans b7) el) (by omega) (by omega) fun H8 z8 b8 pa8 hz8 => ⟨z3, fun t ht => ?_⟩⟩⟩
          have s9 := same_new (o := .tup [.str "send", .str z7, .str z8]) ht
          have bA := (b7.trans b8).trans (but_same s9)
          obtain ⟨xs, ex, lx, ld9, k9⟩ := (ld6.pen pa6 bA).snoc (f := Deed.dt) (x := .send z7 z8) (y := .ref t) ⟨t, _, rfl, upd_same, rfl, rfl, rfl, trivial⟩
          have er : runSW (ds ++ [.send z7 z8]) = ⟨(runSW ds).sent + 1, (runSW ds).way ++ [((runSW ds).sent : Int) + 1]⟩ := runSW_snoc _ _
          have so9 : StoryOk ns UL (ds ++ [.send z7 z8]) := so.snoc (d := .send z7 z8) ⟨hz7, hz8⟩
          refine ⟨c, _, _, rfl, rfl, ex, by omega, ?_⟩
          have b9 : But1 a.p H (upd (upd H8 t (.tup [.str "send", .str z7, .str z8])) c (.lst (xs ++ [.ref t]))) := (b6.trans bA).upd_free hc
          have pa9 := pa.upd (pa8.same s9) hc (o := .lst (xs ++ [.ref t]))
          have ey9 : (upd (upd H8 t (.tup [.str "send", .str z7, .str z8])) c (.lst (xs ++ [.ref t]))) y = some (.lst (((runSW ds).way ++ [((runSW ds).sent : Int) + 1]).map V.int)) := by rw [upd_ne cy.symm]; exact pa6.lst bA ey6
          generalize upd (upd H8 t (.tup [.str "send", .str z7, .str z8])) c (.lst (xs ++ [.ref t])) = H9 at ld9 b9 pa9 ey9 ⊢
          have nw9 : ((runSW ds).way ++ [((runSW ds).sent : Int) + 1]).Nodup := nd_snoc nw fun q => by
            have := hw _ q
            omega
          have hw9 : ∀ k ∈ (runSW ds).way ++ [((runSW ds).sent : Int) + 1], k ≤ (((runSW ds).sent + 1 : Nat) : Int) := fun k hk => by
            rcases List.mem_append.mp hk with hk | hk
            · have := hw k hk
              omega
            · obtain rfl := List.mem_singleton.mp hk
              omega
          have lw9 : ((runSW ds).way ++ [((runSW ds).sent : Int) + 1]).length ≤ i + 1 := by rw [List.length_append]; simp; omega
          have lds : (ds ++ [Deed.send z7 z8]).length ≤ 2 * i + 1 := by rw [List.length_append]; simp; omega
          have cs : ((runSW ds).sent : Int) + 1 = (((runSW ds).sent + 1 : Nat) : Int) := by omega
          refine ⟨_, rfl, _, _, rfl, _, _, _, rfl, pa9, by omega, rfl, by omega, by omega, fun H10 k10 b10 pa10 k100 k101 => ⟨rfl, _, rfl, iteB (fun _ => ?_) (fun _ => ⟨_, _, n2 + 4, ds ++ [.send z7 z8], by rw [er, cs]; rfl, b9.trans b10, pa10, by omega, ld9.pen pa9 b10, by rw [er]; exact pa9.lst b10 ey9, so9, by omega, by rw [er]; exact nw9, by rw [er]; exact hw9, by rw [er]; exact lw9⟩)⟩⟩
          obtain ⟨xd10, exd10, _⟩ := id (ld9.pen pa9 b10)
          refine ⟨_, rfl, .inl ⟨rfl, _, SqL.of exd10⟩, _, rfl, z2, fun t11 ht11 => ?_⟩
          have s11 := same_new (o := .tup [.str "deliver", .int ((runSW ds).sent + 1)]) ht11
          obtain ⟨xs11, ex11, lx11, ld12, k12⟩ := ((ld9.pen pa9 b10).same s11).snoc (f := Deed.dt) (x := .deliver ((runSW ds).sent + 1)) (y := .ref t11) ⟨t11, _, rfl, upd_same, rfl, rfl, trivial⟩
          have er2 : runSW ((ds ++ [.send z7 z8]) ++ [.deliver ((runSW ds).sent + 1)]) = ⟨(runSW ds).sent + 1, (runSW ds).way ++ [((runSW ds).sent : Int) + 1]⟩ := (runSW_snoc _ _).trans er
          refine ⟨c, _, _, rfl, rfl, ex11, by omega, _, _, n2 + 4, (ds ++ [.send z7 z8]) ++ [.deliver ((runSW ds).sent + 1)], by rw [er2, cs]; rfl, ((b9.trans b10).trans (but_same s11)).upd_free hc, pa.upd (pa10.same s11) hc, by omega, ld12, by rw [er2, upd_ne cy.symm]; exact s11 _ _ (pa9.lst b10 ey9), so9.snoc (d := .deliver ((runSW ds).sent + 1)) ?_, by rw [List.length_append]; simp at lds ⊢; omega, by rw [er2]; exact nw9, by rw [er2]; exact hw9, by rw [er2]; exact lw9⟩
          show ((runSW ds).sent : Int) + 1 ∈ (runSW (ds ++ [.send z7 z8])).way
          rw [er]
          simp
        · rintro H5 ⟨b5, pa5, ld5, ey5, hne⟩
          have hne := hne rfl
          have wl1 : 1 ≤ (runSW ds).way.length := by
            cases e : (runSW ds).way with
            | nil => exact absurd e hne
            | cons _ _ => simp
          obtain ⟨xd5, exd5, tvd5⟩ := id ld5
          have lxd5 : xd5.length = ds.length := by rw [← tvd5.length, List.length_map]
          refine ⟨_, rfl, _, _, rfl, rfl, _, rfl, iteB (fun _ => ?_) (fun _ => ?_)⟩
          · -- a message comes in
            refine ⟨_, rfl, .inl ⟨rfl, _, SqL.of exd5⟩, _, rfl, _, rfl, pick_of pa5 (by omega) ey5 (by rw [List.length_map]; exact wl1) (by rw [List.length_map]; omega) fun H6 y6 b6 pa6 hy6 => ⟨z2, fun t ht => ?_⟩⟩
            obtain ⟨k, hk, rfl⟩ := List.mem_map.mp hy6
            have s7 := same_new (o := .tup [.str "deliver", .int k]) ht
            have bA := b6.trans (but_same s7)
            obtain ⟨xs, ex, lx, ld7, k7⟩ := (ld5.pen pa5 bA).snoc (f := Deed.dt) (x := .deliver k) (y := .ref t) ⟨t, _, rfl, upd_same, rfl, rfl, trivial⟩
            have er : runSW (ds ++ [.deliver k]) = runSW ds := runSW_snoc _ _
            exact ⟨c, _, _, rfl, rfl, ex, by omega, _, _, n2 + 2, ds ++ [.deliver k], by rw [er]; rfl, (b5.trans bA).upd_free hc, pa.upd (pa6.same s7) hc, by omega, ld7, by rw [er, upd_ne cy.symm]; exact pa5.lst bA ey5, so.snoc (d := .deliver k) hk, by simp; omega, by rw [er]; exact nw, by rw [er]; exact hw, by rw [er]; omega⟩
          · -- a message is lost
            refine ⟨_, rfl, .inl ⟨rfl, _, SqL.of exd5⟩, _, rfl, .inl ⟨rfl, _, SqL.of ey5⟩, _, rfl, _, rfl, y, _, rfl, .inl (SqL.of ey5), _, _, rfl, a, n2 + 1, _, rfl, pa5, by omega, rfl, by rw [List.length_map]; omega, by rw [List.length_map]; omega, fun H6 k6 b6 pa6 k60 k61 => ?_⟩
            rw [List.length_map] at k61
            have hk : k6.toNat < (runSW ds).way.length := by omega
            have ey6 := pa5.lst b6 ey5
            refine ⟨y, _, k6, k6.toNat, .int (runSW ds).way[k6.toNat], rfl, rfl, ey6, by omega, by omega, seqIndex_of k60 (by rw [List.length_map]; omega), by rw [List.getElem?_map, List.getElem?_eq_getElem hk]; rfl, z2, fun t ht => ?_⟩
            have k7 : Tk H6 (upd H6 y (.lst (((runSW ds).way.map V.int).eraseIdx k6.toNat))) := tk_mut ey6 (by intro _ z; cases z)
            have ld7 : LstAt (upd H6 y (.lst (((runSW ds).way.map V.int).eraseIdx k6.toNat))) c Deed.dt ds := (ld5.pen pa5 b6).keep k7 fun xs e => by rw [upd_ne cy]; exact e
            have s8 := same_new (o := .tup [.str "lose", .int (runSW ds).way[k6.toNat]]) ht
            obtain ⟨xs, ex, lx, ld8, k8⟩ := (ld7.same s8).snoc (f := Deed.dt) (x := .lose (runSW ds).way[k6.toNat]) (y := .ref t) ⟨t, _, rfl, upd_same, rfl, rfl, trivial⟩
            have er : runSW (ds ++ [.lose (runSW ds).way[k6.toNat]]) = ⟨(runSW ds).sent, (runSW ds).way.filter fun j => decide (j ≠ (runSW ds).way[k6.toNat])⟩ := runSW_snoc _ _
            have ef := erase_filter nw k6.toNat hk
            have b7 : But1 a.p H (upd H6 y (.lst (((runSW ds).way.map V.int).eraseIdx k6.toNat))) := (b5.trans b6).upd_free y0
            refine ⟨c, _, _, rfl, rfl, ex, by omega, _, _, n2 + 2, ds ++ [.lose (runSW ds).way[k6.toNat]], by rw [er]; rfl, (b7.trans (but_same s8)).upd_free hc, pa.upd ((pa.upd pa6 y0).same s8) hc, by omega, ld8, ?_, so.snoc (d := .lose (runSW ds).way[k6.toNat]) (List.getElem_mem hk), by simp; omega, by rw [er]; exact nw.sublist (List.filter_sublist), by rw [er]; exact fun k hk => hw k (List.mem_filter.mp hk).1, by rw [er]; exact Nat.le_trans (List.length_filter_le _ _) (by omega)⟩
            rw [er, upd_ne cy.symm]
            show (upd (upd H6 y _) t _) y = some (.lst (((runSW ds).way.filter fun j => decide (j ≠ (runSW ds).way[k6.toNat])).map V.int))
            rw [← ef]
            refine s8 _ _ ?_
            rw [upd_same, eraseIdx_map']
    · rintro σ H2 ⟨v7, v8, n2, ds, rfl, b2, pa2, hn2, ld, ey2, so, hl, nw, hw, lw⟩
      exact ⟨_, rfl, q _ n2 c ds b2 pa2 (by omega) hc ld so (by omega)⟩
end
end Lv
set_option maxHeartbeats 4000000
namespace Lv
open PySem PySem.Spec PyProof.Rows L2
theorem tab_pen {K : PySem.W.Frag} {x : Str} {H H' : Hp} {a : PenA} {n : Nat} (pa : PenAt H a n) (b : But1 a.p H H') (t : TabH K x H) : TabH K x H' := by
  obtain ⟨ps, hP, ht, ha⟩ := t
  refine ⟨ps, b _ _ hP (pa.ne hP (by intro _ z; cases z)), ht, fun p' cv hcv => ?_⟩
  obtain ⟨c0, e1, e2⟩ := ha p' cv hcv
  refine ⟨c0, e1, b _ _ e2 (pa.ne e2 fun kv z => ?_)⟩
  unfold LamX.CodeO at z
  cases z
theorem tab3_pen {K : PySem.W.Frag} {H H' : Hp} {a : PenA} {n : Nat} (pa : PenAt H a n) (b : But1 a.p H H') (t : Tab3 K H) : Tab3 K H' := ⟨tab_pen pa b t.1, tab_pen pa b t.2.1, tab_pen pa b t.2.2⟩
theorem tab3_same {K : PySem.W.Frag} {H H' : Hp} (s : Same H H') (t : Tab3 K H) : Tab3 K H' := ⟨t.1.ext s, t.2.1.ext s, t.2.2.ext s⟩
theorem tab3_keep {K : PySem.W.Frag} {H H' : Hp} (t : Tab3 K H) (b : But (STab K) H H') {x : Addr} {o : HO} (e : H x = some o) (n : ∀ ps, o ≠ .tbl ps) : H' x = some o := b _ _ e fun z => by
  have key : ∀ {y : Str}, TabH K y H → x ≠ tabA K y := fun t q => by
    obtain ⟨ps, hP⟩ := tab_of t
    rw [q, hP] at e
    exact n ps (Option.some.inj e).symm
  rcases z with z | z | z
  · exact key t.1 z
  · exact key t.2.1 z
  · exact key t.2.2 z
theorem tab3_tk {K : PySem.W.Frag} {H H' : Hp} (t : Tab3 K H) (b : But (STab K) H H') : Tk H H' := fun a xs e => tab3_keep t b e (by intro _ z; cases z)
structure LawSt (P : Program) (w : World) (K : PySem.W.Frag) (U ks names : List Str) (UL : List LR) (H : Hp) (a : PenA) (n : Nat) (A : PlA) (mp : PlM) (B : NetA) (mn : NetM) (lsp : Addr) : Prop where
  bo : Both P w K U ks names UL H A mp B mn
  pa : PenAt H a n
  ap : ¬ A.FP mp a.p
  bp : ¬ B.FP mn a.p
  el : H lsp = some (.lst (A.ns.map V.str))
section
variable {P : Program} {w : World} {K : PySem.W.Frag} {U ks names : List Str} {UL : List LR} {H H' : Hp} {a : PenA} {n n' : Nat} {A : PlA} {mp : PlM} {B : NetA} {mn : NetM} {lsp : Addr}
theorem LawSt.same (s : Same H H') (h : LawSt P w K U ks names UL H a n A mp B mn lsp) : LawSt P w K U ks names UL H' a n A mp B mn lsp := ⟨h.bo.same s, h.pa.same s, h.ap, h.bp, s _ _ h.el⟩
theorem LawSt.pen (b : But1 a.p H H') (pa : PenAt H' a n') (h : LawSt P w K U ks names UL H a n A mp B mn lsp) : LawSt P w K U ks names UL H' a n' A mp B mn lsp := by
  obtain ⟨_, _, _, _, _, ep, _⟩ := id h.pa
  refine ⟨⟨h.bo.pk, h.bo.pa.but b (fun x hx => by rw [show x = a.p from hx]; exact h.ap) fun x hx => ⟨fun xs e => ?_, fun C dx fs _ e => ?_⟩, h.bo.nk, h.bo.na.but b (fun x hx => by rw [show x = a.p from hx]; exact h.bp) fun x hx => ⟨fun xs e => ?_, fun xs e => ?_⟩, h.bo.ns, h.bo.rel, h.bo.ul, h.bo.u, h.bo.nks, h.bo.dis⟩, pa, h.ap, h.bp, h.pa.lst b h.el⟩ <;>
    (rw [show x = a.p from hx, ep] at e; cases e)
theorem LawSt.step {H1 : Hp} {mp' : PlM} {d : Deed} (h : LawSt P w K U ks names UL H a n A mp B mn lsp) (okN : mn.okD B.ns UL d) (b1 : But A.W H H1) (p1 : PlAt K U ks H1 A mp') (sp : StepP A.ns mp mp' d) (f1 : ∀ b, A.FP mp' b → A.FP mp b ∨ H b = none) :
    NetAt P w UL H1 B mn ∧ ∀ {H2 : Hp} {mn' : NetM}, But B.W H1 H2 → NetAt P w UL H2 B mn' → StepN B.ns mn mn' d → (∀ b, B.FP mn' b → B.FP mn b ∨ H1 b = none) → LawSt P w K U ks names UL H2 a n A mp' B mn' lsp ∧ Tk H H2 ∧ ∀ x xs, H x = some (.lst xs) → H2 x = some (.lst xs) := by
  have na1 : NetAt P w UL H1 B mn := h.bo.na.but b1 (fun x hx => h.bo.dis x (.inl hx)) fun x hx => by
    rcases h.bo.pa.wk hx with ⟨kv, e⟩ | ⟨C, dx, v0, v1, v2, v3, e⟩
    · exact ⟨(fun xs z => by rw [e] at z; cases z), (fun xs z => by rw [e] at z; cases z)⟩
    · exact ⟨(fun xs z => by rw [e] at z; cases z), (fun xs z => by rw [e] at z; cases z)⟩
  refine ⟨na1, fun {H2 mn'} b2 n2 sn f2 => ?_⟩
  have dis1 : ∀ b, A.FP mp' b → ¬ B.FP mn b := fun b hb hb2 => by
    rcases f1 b hb with q | q
    · exact h.bo.dis b q hb2
    · exact h.bo.na.occ hb2 q
  have dis2 : ∀ b, A.FP mp' b → ¬ B.FP mn' b := fun b hb hb2 => by
    rcases f2 b hb2 with q | q
    · exact dis1 b hb q
    · exact p1.occ hb q
  have p2 : PlAt K U ks H2 A mp' := p1.but b2 (fun x hx z => dis1 x z (.inl hx)) fun x hx => ⟨(na1.nk hx).1, fun C dx fs _ => (na1.nk hx).2.2 C dx fs⟩
  have ap1 : ¬ A.FP mp' a.p := fun z => by
    rcases f1 _ z with q | q
    · exact h.ap q
    · exact h.pa.p_occ q
  have ne1 : ∀ {x : Addr} {xs : List V}, H x = some (.lst xs) → ¬ A.W x := fun e z => by
    rcases h.bo.pa.wk z with ⟨kv, q⟩ | ⟨C, dx, v0, v1, v2, v3, q⟩ <;> rw [q] at e <;> cases e
  have pa1 : PenAt H1 a n := h.pa.but b1 (fun z => h.ap (.inl z)) (ne1 h.pa.1)
  have bp2 : ¬ B.FP mn' a.p := fun z => by
    rcases f2 _ z with q | q
    · exact h.bp q
    · exact pa1.p_occ q
  have pa2 : PenAt H2 a n := pa1.but b2 (fun z => h.bp (.inl z)) fun z => (na1.nk z).2.1 _ pa1.1
  have e1 := b1 _ _ h.el (ne1 h.el)
  have e2 := b2 _ _ e1 fun z => (na1.nk z).2.1 _ e1
  have rel2 : Rel A.ns mp' mn' := rel_step h.bo.ul h.bo.rel (fun i hi j hj x hx => (h.bo.na.good i (by rw [h.bo.ns]; exact hi) j (by rw [h.bo.ns]; exact hj)).2 x hx) (fun g hg j hj x hx => ((h.bo.na.ms g hg).good j (by rw [h.bo.ns]; exact hj)).2 x hx) (by rw [← h.bo.ns]; exact okN) (fun g hg => by rw [← h.bo.ns]; exact (h.bo.na.ms g hg).fr) sp (by rw [← h.bo.ns]; exact sn)
  exact ⟨⟨⟨h.bo.pk, p2, h.bo.nk, n2, h.bo.ns, rel2, h.bo.ul, h.bo.u, h.bo.nks, dis2⟩, pa2, ap1, bp2, e2⟩, (h.bo.pa.tk b1).trans (na1.tk b2), fun x xs e => by
    have e1 := b1 _ _ e (ne1 e)
    exact b2 _ _ e1 fun z => (na1.nk z).2.1 _ e1⟩
end
theorem find_of_way {ms : List NMsg} {k : Int} (h : k ∈ ms.map (·.m.n)) : ∃ g, ms.find? (fun g => decide (g.m.n = k)) = some g := by
  obtain ⟨g, hg, e⟩ := List.mem_map.mp h
  cases hf : ms.find? fun g => decide (g.m.n = k) with
  | none => exact absurd (decide_eq_true e) (List.find?_eq_none.mp hf g hg)
  | some g' => exact ⟨g', rfl⟩
theorem find_of_wayP {ms : List PMsg} {k : Int} (h : k ∈ ms.map (·.m.n)) : ∃ g, ms.find? (fun g => decide (g.m.n = k)) = some g := by
  obtain ⟨g, hg, e⟩ := List.mem_map.mp h
  cases hf : ms.find? fun g => decide (g.m.n = k) with
  | none => exact absurd (decide_eq_true e) (List.find?_eq_none.mp hf g hg)
  | some g' => exact ⟨g', rfl⟩
def SwIs (s : SW) (mp : PlM) : Prop := mp.sent = s.sent ∧ mp.ms.map (·.m.n) = s.way
theorem sw_step {ns : List Str} {s : SW} {mp mp' : PlM} {d : Deed} (h : SwIs s mp) (sp : StepP ns mp mp' d) : SwIs (stepSW s d) mp' := by
  obtain ⟨h1, h2⟩ := h
  cases d with
  | write z x =>
    obtain ⟨e, _, rfl⟩ := sp
    exact ⟨h1, h2⟩
  | send a b =>
    obtain ⟨g, rfl, g1, _⟩ := sp
    refine ⟨by show mp.sent + 1 = s.sent + 1; rw [h1], ?_⟩
    show (mp.ms ++ [g]).map (·.m.n) = s.way ++ [(s.sent : Int) + 1]
    rw [List.map_append, h2, List.map_cons, List.map_nil, g1, h1]
  | deliver k =>
    obtain ⟨g, _, rfl⟩ := sp
    exact ⟨h1, h2⟩
  | lose k =>
    obtain rfl : mp' = _ := sp
    refine ⟨h1, ?_⟩
    show (mp.ms.filter fun g => decide (g.m.n ≠ k)).map (·.m.n) = s.way.filter fun j => decide (j ≠ k)
    rw [← h2, List.filter_map]
    rfl
theorem rel_way {ns : List Str} : ∀ {l : List PMsg} {m : List NMsg}, Paired (MsgRel ns) l m → l.map (·.m.n) = m.map (·.m.n)
  | _, _, .nil => rfl
  | _, _, .cons ⟨h1, _⟩ t => by rw [List.map_cons, List.map_cons, rel_way t, h1]
theorem okd_of {ns : List Str} {UL : List LR} {s : SW} {mp : PlM} {mn : NetM} {d : Deed} (h : okSW ns UL s d) (sw : SwIs s mp) (r : Rel ns mp mn) : mp.okD ns UL d ∧ mn.okD ns UL d := by
  have w1 := sw.2
  have w2 := (rel_way r.ms).symm.trans w1
  cases d with
  | write z x => exact ⟨h, h⟩
  | send a b => exact ⟨h, h⟩
  | deliver k => exact ⟨find_of_wayP (by rw [w1]; exact h), find_of_way (by rw [w2]; exact h)⟩
  | lose k => exact ⟨find_of_wayP (by rw [w1]; exact h), find_of_way (by rw [w2]; exact h)⟩
end Lv
set_option maxHeartbeats 4000000
namespace Lv
open PySem PySem.Spec PyProof.Rows L2
theorem pi_listK {X : Cx} {K : PySem.W.Frag} {tg l : Expr} {tl : TE} (hl : PE X l tl) (hK : X.K = K := by rfl) : PI X tg l (iList K tl) := by
  subst hK
  exact pi_list hl
def tInO (C : Addr) (sp : Sp) (ty td : TE) : TE := fun σ H Q => ty σ H fun y H1 => td σ H1 fun x H2 => ∃ a dx fs, x = .ref a ∧ H2 a = some (.ins C dx fs) ∧ sp [.ref a, y] H2 (fun v H3 => ∃ b, v = .bl b ∧ Q (.bl b) H3) E0
section
variable {X : Cx} {k : Nat} {C : Addr} {ps : List Str} {sp : Sp} {i o : Expr} {ty td : TE}
theorem pc_inO (c : MethOk X.prog X.w X.K X.mg X.base k C "__contains__" ps sp) (hr : Room k X.A) (hi : PE X i ty) (ho : PE X o td) : PC X .In i o (tInO C sp ty td) := by
  obtain ⟨f, fd, F, cl, hm, hb⟩ := c.ex
  refine ⟨fun pins s σ H Q I h => ?_⟩
  refine thn (hi.run pins s σ H _ I h) fun iv s1 ⟨y, H1, I1, ry, q1⟩ => thn (ho.run pins s1 σ H1 _ I1 q1) fun u s2 ⟨x, H2, I2, rx, a, dx, fs, ex, ha, hsp⟩ => ?_
  subst ex
  obtain rfl : u = Value.ref a := rx
  obtain ⟨mA, J, _⟩ := ins_get I2.hok ha
  obtain ⟨od, J, _⟩ := J.look
  show wpAny (model X.prog X.w) X.A (do return Value.bool (← contains (.ref a) iv)) _ _ _
  refine wpAny_bind (contains_KI I2.kIn J hm.at_ hm.fn ?_)
  have hl := F.len _ _ _ _ hsp
  have r2 : Vals [V.ref a, y] [Value.ref a, iv] := .cons rfl (.cons ry .nil)
  refine wpAny_call (codeAny_mono (F.run X.A X.stack s2 H2 ⟨[.ref a, iv], []⟩ [.ref a, iv] [.ref a, y] _ E0 hr I2.env0 (by
    have := hb s2 [.ref a, iv] I2.kIn (by simpa using hl)
    simpa using this) r2 hsp) fun r s' hq => ?_)
  cases r with
  | error e => exact (show False from hq).elim
  | ok fl =>
    cases fl with
    | ret w =>
      obtain ⟨z, H', I', rz, b, rfl, q⟩ := I2.after hq
      cases rz
      exact wpAny_truthy_bool (wpAny_pure ⟨.bl b, H', I', rfl, q⟩)
    | next => exact False.elim hq
    | brk => exact False.elim hq
    | cont => exact False.elim hq
end
section
variable {P : Program} {w : World} {K : PySem.W.Frag} {mg : Str → Option Value} {base : Heap}
def relS (K : PySem.W.Frag) : Addr → Addr → Hp → Prop := fun a b H => ∃ (f : ForumA) (l : List LRow), f.At K H ∧ StateAt K H a f.x l ∧ StateAt K H b f.x l
abbrev N_State_eq : List Str := ["self", "other"]
theorem sc_State_eq : FnScope N_State_eq ["self", "other"] (defScope s_State_eq) := ⟨rfl, rfl, rfl, by decide +kernel, rfl, by decide +kernel, by decide +kernel⟩
theorem ok_State_eq (T : Txt K mg) : MethOk P w K mg base 4 (He.ga K "State") "__eq__" ["self", "other"] (spEq (relS K)) := by
  refine meth_ok (q := "State.__eq__") T 47 T.cls_State T.me_State_eq sc_State_eq (fun vs H Q E h => ?_) (fun f cdv A outer s H vs Q E hr h => ?_) (fun _ _ _ _ _ _ us hl => match us, hl with | [_, _], _ => rfl)
  · obtain ⟨x0, x1, rfl, _⟩ := h
    rfl
  · have nd := sc_State_eq.nd
    have hu := hu_of hr
    have hu64 := hu64_of hr
    have c_Forum_eq := ok_Forum_eq (P := P) (w := w) (base := base) T
    obtain ⟨x0, x1, rfl, h⟩ := h
    refine ⟨_, (pss_cons (ps_if (pt_not (pt_val (pe_callB (C8.call_isC (T.ins T.cls_State (by decide +kernel))) (by rfl) T.b_isinstance boot_isinstance (pa_cons (pv 1) (pa_cons (pe_gref T.g_State) pa_nil))))) (pss_one (ps_ret pe_bl)) pss_nil) (pss_one (ps_ret (pe_and (pe_cmpR (op_eqO c_Forum_eq (hr.mono (by first | decide | omega))) (fldK (K := K) (pv 0) rfl) (fldK (K := K) (pv 1) rfl) (nomark _)) (pe_one (pe_cmpR (op_eqG (n := 1) (rcG_tup (n := 0) mon_dsame eqG_dsame) (hr.mono (by first | decide | omega))) (fldK (K := K) (pv 0) rfl) (fldK (K := K) (pv 1) rfl) (nomark _))))))), ?_⟩
    obtain ⟨⟨f, l, hf, sa, sb⟩, q⟩ := h
    obtain ⟨dx, D, t, sp', cn, ac, vo, ba, o, eD, et⟩ := id sa
    obtain ⟨dx2, D2, t2, sp2', cn2, ac2, vo2, ba2, o2, eD2, et2⟩ := id sb
    obtain ⟨⟨dxf, of⟩, _⟩ := id hf
    refine ⟨_, rfl, _, _, _, rfl, o2, _, rfl, iteF ?_⟩
    refine ⟨_, rfl, _, _, _, _, _, rfl, o, T.cls_State, T.na_State_forum, fl_State_forum .., _, rfl, _, _, _, _, _, rfl, o2, T.cls_State, T.na_State_forum, fl_State_forum .., ⟨f.x, f.x, _, _, _, _, rfl, rfl, of, of, rfl, f, rfl, hf⟩, fun H1 s1 => ⟨_, rfl, iteT ?_⟩⟩
    have o1 := s1 _ _ o
    have o21 := s1 _ _ o2
    have prs : ∀ l : List LRow, Prs DSame (l.map fun e => V.ref e.a) (l.map fun e => V.ref e.a) H1 := fun l => by
      induction l with
      | nil => exact Prs.nil
      | cons e l ih => exact Prs.cons ⟨rfl, _, rfl⟩ ih
    refine ⟨_, rfl, _, _, _, _, _, rfl, o1, T.cls_State, T.na_State_letters, fl_State_letters .., _, rfl, _, _, _, _, _, rfl, o21, T.cls_State, T.na_State_letters, fl_State_letters .., ⟨t, t2, _, _, rfl, rfl, SqT.of (s1 _ _ et), SqT.of (s1 _ _ et2), prs l⟩, fun H' e => q _ ?_⟩
    exact s1.trans e
def sp_is_part_of (K : PySem.W.Frag) : Sp := sp2 fun v x0 H Q => ∃ (y z : Addr) (f : ForumA) (l m : List LRow), v = .ref y ∧ StateAt K H y f.x l ∧ x0 = .ref z ∧ StateAt K H z f.x m ∧ f.At K H ∧ (∀ e ∈ l, LRow.At K H e) ∧ l.length ≤ 1000 ∧ (∀ e ∈ l, e.text ∈ m.map LRow.text) ∧
  ∀ H', Same H H' → Q (.bl true) H'
abbrev N_State_is_part_of : List Str := ["self", "other", "letter"]
theorem sc_State_is_part_of : FnScope N_State_is_part_of ["self", "other"] (defScope s_State_is_part_of) := ⟨rfl, rfl, rfl, by decide +kernel, rfl, by decide +kernel, by decide +kernel⟩
theorem ok_State_is_part_of (T : Txt K mg) : MethOk P w K mg base 4 (He.ga K "State") "is_part_of" ["self", "other"] (sp_is_part_of K) := by
  refine meth_ok (q := "State.is_part_of") T 52 T.cls_State T.me_State_is_part_of sc_State_is_part_of (fun vs H Q E h => ?_) (fun f cdv A outer s H vs Q E hr h => ?_) (fun _ _ _ _ _ _ us hl => match us, hl with | [_, _], _ => rfl)
  · obtain ⟨x0, x1, rfl, _⟩ := h
    rfl
  · have nd := sc_State_is_part_of.nd
    have hu := hu_of hr
    have hu64 := hu64_of hr
    have c_Forum_eq := ok_Forum_eq (P := P) (w := w) (base := base) T
    have c_State_contains := ok_State_contains (P := P) (w := w) (base := base) T
    obtain ⟨x0, x1, rfl, h⟩ := h
    refine ⟨_, (pss_one (ps_ret (pe_and (pe_cmpR (op_eqO c_Forum_eq (hr.mono (by first | decide | omega))) (fldK (K := K) (pv 0) rfl) (fldK (K := K) (pv 1) rfl) (nomark _)) (pe_one (pe_callB (allK (K := K)) (by rfl) T.b_all boot_all (pa_cons (pe_lc (own := [("letter", 2)]) (g := (gName 2)) (tt := tYes) rfl nd (pi_tup (fldK (K := K) (pv 0) rfl)) (blkOk_by (own := [("letter", 2)]) (N := N_State_is_part_of) (sc := defScope s_State_is_part_of) (by decide +kernel)) (fun _ _ _ _ _ => (pg_name (i := 2) nd rfl (Or.inl rfl))) (fun _ _ _ _ _ => pts_nil) (fun _ _ _ _ _ => (pe_cmp (pc_inO c_State_contains (hr.mono (by first | decide | omega)) (pv 2) (pv 1))))) pa_nil)))))), ?_⟩
    obtain ⟨y, z, f, l, m, rfl, sy, rfl, sz, hf, hat, hl, hm, q⟩ := h
    obtain ⟨dx, D, t, sp', cn, ac, vo, ba, o, eD, et⟩ := id sy
    obtain ⟨dx2, D2, t2, sp2', cn2, ac2, vo2, ba2, o2, eD2, et2⟩ := id sz
    obtain ⟨⟨dxf, of⟩, _⟩ := id hf
    have z1001 : (1001 : Nat) < sizeLine := by decide
    refine ⟨_, rfl, _, _, _, _, _, rfl, o, T.cls_State, T.na_State_forum, fl_State_forum .., _, rfl, _, _, _, _, _, rfl, o2, T.cls_State, T.na_State_forum, fl_State_forum .., ⟨f.x, f.x, _, _, _, _, rfl, rfl, of, of, rfl, f, rfl, hf⟩, fun H1 s1 => ⟨_, rfl, iteT ?_⟩⟩
    have o1 := s1 _ _ o
    have et1 := s1 _ _ et
    refine ⟨_, rfl, _, _, _, _, _, rfl, o1, T.cls_State, T.na_State_letters, fl_State_letters .., t, rfl, ⟨_, SqT.of et1⟩, fun D3 hD3 => lc_rel walk_tup (RF fun _ => V.bl true) hD3 (fun H' s => SqT.of (s _ _ et1)) rfl ?_ ?_⟩
    · rintro j v l' H3 H4 hj hlj s e3 r ⟨rfl, hv⟩
      obtain ⟨e, he, rfl⟩ := getMap hv
      rw [List.length_map] at hj
      have sz4 := (sz.same s1).same s
      obtain ⟨dx3, D3', t3, sp3', cn3, ac3, vo3, ba3, o3, _, _⟩ := id sz4
      refine ⟨rfl, _, rfl, _, rfl, z, _, _, rfl, o3, _, _, rfl, z, f.x, m, e, rfl, sz4, rfl, LRow.same (s1.trans s) (hat e (List.mem_of_getElem? he)), fun H5 s5 => ⟨_, rfl, ?_⟩⟩
      rw [decide_eq_true (hm e (List.mem_of_getElem? he))]
      exact lc_takeF hD3 (by omega) hlj (s.trans s5) (s5 _ _ e3) r rfl
    · intro m2 H3 hl3 s3 e3 r
      rw [List.length_map] at r
      have r : m2 = (List.range l.length).map fun _ => V.bl true := r
      have e : m2 = (List.replicate l.length true).map V.bl := by
        rw [r, List.map_replicate]
        exact List.eq_replicate_iff.mpr ⟨by simp, by simp⟩
      have ea : ((List.replicate l.length true).all id) = true := by simp
      refine ⟨D3, List.replicate l.length true, rfl, SqL.of (by rw [e3, e]), ?_⟩
      rw [ea]
      exact q _ (s1.trans s3)
end
end Lv
set_option maxHeartbeats 4000000
namespace Lv
open PySem PySem.Spec PyProof.Rows L2
theorem same_unlock {H H' : Hp} {d : Addr} {u v : HO} (e : H d = some u) (s : Same (upd H d v) H') : Same H (upd H' d u) := fun x o q => by
  by_cases h : x = d
  · rw [h] at q ⊢
    rw [upd_same, ← e]
    exact q
  · rw [upd_ne h]
    exact s _ _ (by rw [upd_ne h]; exact q)
def allL (M : Str → Str → List LRow) (ns : List Str) (i : Str) : List LRow := (M i i).filter fun e => ns.all fun z => decide (e.text ∈ (M i z).map LRow.text)
theorem lDict_get {l : List LRow} (h : (l.map LRow.text).Nodup) {e : LRow} (he : e ∈ l) : valV (lDict l) (Sum.inr e.text : Key) = some (.ref e.a) := by
  induction l with
  | nil => cases he
  | cons a l ih =>
    rw [List.map_cons, List.nodup_cons] at h
    have hd : lDict (a :: l) = ((Sum.inr a.text : Key), V.ref a.a) :: lDict l := rfl
    unfold valV
    rw [hd, List.find?_cons]
    rcases List.mem_cons.mp he with rfl | he
    · rw [decide_eq_true rfl]
      rfl
    · rw [decide_eq_false fun z => h.1 (by rw [Sum.inr.inj z]; exact List.mem_map_of_mem he)]
      exact ih h.2 he
section
variable {P : Program} {w : World} {K : PySem.W.Frag} {mg : Str → Option Value} {base : Heap}
def sp_known (K : PySem.W.Frag) : Sp := sp3 fun v x0 x1 H Q => ∃ (U ks : List Str) (A : PlA) (m : PlM) (i j : Str), v = .ref A.p ∧ A.Ok U ks ∧ PlAt K U ks H A m ∧ x0 = .str i ∧ i ∈ A.ns ∧ x1 = .str j ∧ j ∈ A.ns ∧ ∀ H' y, Same H H' → StateAt K H' y A.f.x (texF (m.M i j)) → Q (.ref y) H'
abbrev N_Places_known : List Str := ["self", "place", "other"]
theorem sc_Places_known : FnScope N_Places_known ["self", "place", "other"] (defScope s_Places_known) := ⟨rfl, rfl, rfl, by decide +kernel, rfl, by decide +kernel, by decide +kernel⟩
theorem ok_Places_known (T : Txt K mg) : MethOk P w K mg base 13 (He.ga K "Places") "known" ["self", "place", "other"] (sp_known K) := by
  refine meth_ok (q := "Places.known") T 67 T.cls_Places T.me_Places_known sc_Places_known (fun vs H Q E h => ?_) (fun f cdv A outer s H vs Q E hr h => ?_) (fun _ _ _ _ _ _ us hl => match us, hl with | [_, _, _], _ => rfl)
  · obtain ⟨x0, x1, x2, rfl, _⟩ := h
    rfl
  · have nd := sc_Places_known.nd
    have hu := hu_of hr
    have hu64 := hu64_of hr
    have c_Places_need := ok_Places_need (P := P) (w := w) (base := base) T
    have c_Places_told := ok_Places_told (P:=P) (w:=w) (base:=base) T
    obtain ⟨x0, x1, x2, rfl, h⟩ := h
    refine ⟨_, (pss_cons (ps_expr (pe_methO c_Places_need (hr.mono (by first | decide | omega)) (pv 0) (pa_cons (pv 1) pa_nil))) (pss_cons (ps_expr (pe_methO c_Places_need (hr.mono (by first | decide | omega)) (pv 0) (pa_cons (pv 2) pa_nil))) (pss_one (ps_ret (pe_methO c_Places_told (hr.mono (by first | decide | omega)) (pv 0) (pa_cons (pe_dget hu (pe_dget hu (fldK (K := K) (pv 0) rfl) (pv 1) (fun _ _ => rfl)) (pv 2) (fun _ _ => rfl)) pa_nil)))))), ?_⟩
    obtain ⟨U, ks, A1, m, i, j, rfl, ok, at0, rfl, hi, rfl, hj, q⟩ := h
    obtain ⟨dp, o⟩ := at0.op
    refine ⟨_, rfl, A1.p, dp, _, rfl, o, places_no.1, _, rfl, _, _, rfl, A1.p, dp, A1.su, _, _, _, _, i, rfl, o, at0.su, rfl, ok.ns.2.2.2 i hi, by rw [tblD_val hi]; rfl, fun H1 s1 => ?_⟩
    have o1 := s1 _ _ o
    have at1 := at0.same s1
    refine ⟨_, rfl, A1.p, dp, _, rfl, o1, places_no.1, _, rfl, _, _, rfl, A1.p, dp, A1.su, _, _, _, _, j, rfl, o1, at1.su, rfl, ok.ns.2.2.2 j hj, by rw [tblD_val hj]; rfl, fun H2 s2 => ?_⟩
    have o2 := s2 _ _ o1
    have at2 := at1.same s2
    have g := at2.good i hi j hj
    have l1 := g.len
    have hu := ok.u
    refine ⟨_, rfl, A1.p, dp, _, rfl, o2, places_no.2.2.1, _, rfl, _, _, _, _, _, rfl, o2, T.cls_Places, T.na_Places_sure, fl_Places_sure .., _, rfl, A1.su, .ref (A1.tb i), rfl, tblD_val (g := A1.tb) hi ▸ DGet.k (k := Sum.inr i) at2.su, _, rfl, A1.tb i, .ref (A1.inn i j), rfl, tblD_val (g := A1.inn i) hj ▸ DGet.k (k := Sum.inr j) (at2.tb i hi), ?_⟩
    exact ⟨_, _, rfl, A1.p, dp, A1.f, _, _, _, A1.inn i j, m.M i j, ks, rfl, o2, at2.fo, ok.fl, rfl, at2.inn i hi j hj, g.at, by omega, g.2, ok.k, ok.fk, fun e he => (g.1 e he).2.2, fun H' y l' s' _ eT hst => q H' y ((s1.trans s2).trans s') (eT ▸ hst)⟩
def sp_known_by_all (K : PySem.W.Frag) : Sp := sp2 fun v x0 H Q => ∃ (U ks : List Str) (A : PlA) (m : PlM) (i : Str), v = .ref A.p ∧ A.Ok U ks ∧ PlAt K U ks H A m ∧ x0 = .str i ∧ i ∈ A.ns ∧ ∀ H' y, Same H H' → StateAt K H' y A.f.x (texF (allL m.M A.ns i)) → Q (.ref y) H'
abbrev N_Places_known_by_all : List Str := ["self", "place", "table", "texts", "text", "name"]
theorem sc_Places_known_by_all : FnScope N_Places_known_by_all ["self", "place"] (defScope s_Places_known_by_all) := ⟨rfl, rfl, rfl, by decide +kernel, rfl, by decide +kernel, by decide +kernel⟩
theorem ok_Places_known_by_all (T : Txt K mg) : MethOk P w K mg base 13 (He.ga K "Places") "known_by_all" ["self", "place"] (sp_known_by_all K) := by
  refine meth_ok (q := "Places.known_by_all") T 68 T.cls_Places T.me_Places_known_by_all sc_Places_known_by_all (fun vs H Q E h => ?_) (fun f cdv A outer s H vs Q E hr h => ?_) (fun _ _ _ _ _ _ us hl => match us, hl with | [_, _], _ => rfl)
  · obtain ⟨x0, x1, rfl, _⟩ := h
    rfl
  · have nd := sc_Places_known_by_all.nd
    have hu := hu_of hr
    have hu64 := hu64_of hr
    have c_Places_need := ok_Places_need (P := P) (w := w) (base := base) T
    have c_Places_told := ok_Places_told (P:=P) (w:=w) (base:=base) T
    obtain ⟨x0, x1, rfl, h⟩ := h
    refine ⟨_, (pss_cons (ps_expr (pe_methO c_Places_need (hr.mono (by first | decide | omega)) (pv 0) (pa_cons (pv 1) pa_nil))) (pss_cons (ps_set (i := 2) nd rfl (Or.inr rfl) (pe_dget hu (fldK (K := K) (pv 0) rfl) (pv 1) (fun _ _ => rfl))) (pss_cons (ps_lock (ps_setLc (i := 3) (own := [("text", 4)]) (g := (gName 4)) rfl nd rfl rfl (sw_true rfl rfl rfl (by decide +kernel)) (pi_keys (pe_dget hu (pv 2) (pv 1) (fun _ _ => rfl))) (blkOk_by (own := [("text", 4)]) (N := N_Places_known_by_all) (sc := defScope s_Places_known_by_all) (by decide +kernel)) (fun _ _ _ _ _ => (pg_name (i := 4) nd rfl (Or.inr rfl))) (fun _ _ _ _ _ => (pts_one (pt_val (pe_callB (allK (K := K)) (by rfl) T.b_all boot_all (pa_cons (pe_lock (pe_lc (own := [("name", 5)]) (g := (gName 5)) (tt := tYes) rfl nd (pi_keys (pv 2)) (blkOk_in (own := [("name", 5)]) (N := N_Places_known_by_all) (sc := defScope s_Places_known_by_all) (by decide +kernel)) (fun _ _ _ _ _ => (pg_name (i := 5) nd rfl (Or.inl rfl))) (fun _ _ _ _ _ => pts_nil) (fun _ _ _ _ _ => (pe_cmp (pc_din hu (pv 4) (pe_dget hu (pv 2) (pv 5) (fun _ _ => rfl))))))) pa_nil))))) (fun _ _ _ _ _ => (pv 4)))) (pss_one (ps_ret (pe_methO c_Places_told (hr.mono (by first | decide | omega)) (pv 0) (pa_cons (pe_dc (own := [("text", 4)]) (g := (gName 4)) (tt := tYes) rfl nd (pi_list (pv 3)) (blkOk_by (own := [("text", 4)]) (N := N_Places_known_by_all) (sc := defScope s_Places_known_by_all) (by decide +kernel)) (fun _ _ _ _ _ => (pg_name (i := 4) nd rfl (Or.inl rfl))) (fun _ _ _ _ _ => pts_nil) (fun _ _ _ _ _ => (pv 4)) (fun _ _ _ _ _ => (pe_dget hu (pe_dget hu (pv 2) (pv 1) (fun _ _ => rfl)) (pv 4) (fun _ _ => rfl)))) pa_nil))))))), ?_⟩
    obtain ⟨U, ks, A1, m, i, rfl, ok, at0, rfl, hi, q⟩ := h
    obtain ⟨dp, o⟩ := at0.op
    have z1001 : (2000 : Nat) ≤ sizeLine := by decide
    refine ⟨_, rfl, A1.p, dp, _, rfl, o, places_no.1, _, rfl, _, _, rfl, A1.p, dp, A1.su, _, _, _, _, i, rfl, o, at0.su, rfl, ok.ns.2.2.2 i hi, by rw [tblD_val hi]; rfl, fun H1 s1 => ?_⟩
    have o1 := s1 _ _ o
    have at1 := at0.same s1
    have g := at1.good i hi i hi
    have l1 := g.len
    have hu := ok.u
    have n8 := ok.ns.2.2.1
    refine ⟨_, rfl, _, _, _, _, _, rfl, o1, T.cls_Places, T.na_Places_sure, fl_Places_sure .., _, rfl, A1.su, .ref (A1.tb i), rfl, tblD_val (g := A1.tb) hi ▸ DGet.k (k := Sum.inr i) at1.su, ?_⟩
    refine ⟨A1.inn i i, _, at1.inn i hi i hi, trivial, fun od => ?_⟩
    have tne : ∀ z, z ∈ A1.ns → A1.tb i ≠ A1.inn i z := fun z hz q => ok.tw i hi (.inr (.inr ⟨i, hi, z, hz, q⟩))
    have tbL : (upd H1 (A1.inn i i) (.frz od (.dK (lDict (m.M i i))))) (A1.tb i) = some (.dK (tblD A1.ns (A1.inn i))) := by rw [upd_ne (tne i hi)]; exact at1.tb i hi
    have inL : ∀ z ∈ A1.ns, (upd H1 (A1.inn i i) (.frz od (.dK (lDict (m.M i i))))) (A1.inn i z) = some (.dK (lDict (m.M i z))) ∨ (upd H1 (A1.inn i i) (.frz od (.dK (lDict (m.M i i))))) (A1.inn i z) = some (.frz od (.dK (lDict (m.M i z)))) := fun z hz => by
      by_cases hq : A1.inn i z = A1.inn i i
      · rw [hq, upd_same, (ok.inj i hi z hz i hi i hi hq).2]
        exact .inr rfl
      · rw [upd_ne hq]
        exact .inl (at1.inn i hi z hz)
    have fL : (upd H1 (A1.inn i i) (.frz od (.dK (lDict (m.M i i))))) (A1.inn i i) = some (.frz od (.dK (lDict (m.M i i)))) := upd_same
    have sU : ∀ {H' : Hp}, Same (upd H1 (A1.inn i i) (.frz od (.dK (lDict (m.M i i))))) H' → Same H1 (upd H' (A1.inn i i) (.dK (lDict (m.M i i)))) := fun s => same_unlock (at1.inn i hi i hi) s
    generalize upd H1 (A1.inn i i) (.frz od (.dK (lDict (m.M i i)))) = HL at tbL inL fL sU ⊢
    refine ⟨_, rfl, _, rfl, A1.tb i, .ref (A1.inn i i), rfl, tblD_val (g := A1.inn i) hi ▸ DGet.k (k := Sum.inr i) tbL, A1.inn i i, od, rfl, .inl ⟨_, fL, fun D hD => lc_rel walk_keys (fun n l _ => l = (((m.M i i).take n).filter fun e => A1.ns.all fun z => decide (e.text ∈ (m.M i z).map LRow.text)).map fun e => V.str e.text) hD (fun H' s => s _ _ fL) rfl ?_ ?_⟩⟩
    · rintro n x l H3 H4 hn hl s e3 rfl ⟨rfl, k, u, hk, rfl⟩
      have hn2 : n < (m.M i i).length := by
        unfold lDict at hn
        rwa [List.length_map] at hn
      obtain ⟨e, he, rfl, rfl⟩ : ∃ e, (m.M i i)[n]? = some e ∧ k = Sum.inr e.text ∧ u = .ref e.a := by
        unfold lDict at hk
        rw [List.getElem?_map, List.getElem?_eq_getElem hn2] at hk
        have hk := Option.some.inj hk
        exact ⟨_, List.getElem?_eq_getElem hn2, (congrArg Prod.fst hk).symm, (congrArg Prod.snd hk).symm⟩
      have tb3 := s _ _ tbL
      refine ⟨rfl, A1.tb i, _, tb3, trivial, fun od2 => ⟨_, rfl, A1.tb i, od2, rfl, .inl ⟨_, upd_same, fun D2 hD2 => ?_⟩⟩⟩
      have fI : (upd H4 (A1.tb i) (.frz od2 (.dK (tblD A1.ns (A1.inn i))))) (A1.tb i) = some (.frz od2 (.dK (tblD A1.ns (A1.inn i)))) := upd_same
      have inI : ∀ z ∈ A1.ns, DGet (upd H4 (A1.tb i) (.frz od2 (.dK (tblD A1.ns (A1.inn i))))) (A1.inn i z) (kV (Sum.inr e.text)) (valV (lDict (m.M i z)) (Sum.inr e.text)) := fun z hz => by
        have ne := (tne z hz).symm
        rcases inL z hz with q | q
        · exact DGet.k (k := Sum.inr e.text) (by rw [upd_ne ne]; exact s _ _ q)
        · exact DGet.f (k := Sum.inr e.text) (by rw [upd_ne ne]; exact s _ _ q)
      have inJ : ∀ z ∈ A1.ns, ∃ o, (upd H4 (A1.tb i) (.frz od2 (.dK (tblD A1.ns (A1.inn i))))) (A1.inn i z) = some o := fun z hz => by
        have ne := (tne z hz).symm
        rcases inL z hz with q | q
        · exact ⟨_, by rw [upd_ne ne]; exact s _ _ q⟩
        · exact ⟨_, by rw [upd_ne ne]; exact s _ _ q⟩
      have sI : ∀ {H' : Hp}, Same (upd H4 (A1.tb i) (.frz od2 (.dK (tblD A1.ns (A1.inn i))))) H' → Same H4 (upd H' (A1.tb i) (.dK (tblD A1.ns (A1.inn i)))) := fun s => same_unlock tb3 s
      have lI : ∀ {H' : Hp}, Same (upd H4 (A1.tb i) (.frz od2 (.dK (tblD A1.ns (A1.inn i))))) H' → ∀ z ∈ A1.ns, DGet H' (A1.inn i z) (kV (Sum.inr e.text)) (valV (lDict (m.M i z)) (Sum.inr e.text)) := fun s' z hz => by
        have ne := (tne z hz).symm
        rcases inL z hz with q | q
        · exact DGet.k (k := Sum.inr e.text) (s' _ _ (by rw [upd_ne ne]; exact s _ _ q))
        · exact DGet.f (k := Sum.inr e.text) (s' _ _ (by rw [upd_ne ne]; exact s _ _ q))
      have nD2 : D2 ≠ A1.tb i := fun z => by rw [z, fI] at hD2; cases hD2
      refine lc_rel walk_keys (RF (ixMap A1.ns fun z => V.bl (decide (e.text ∈ (m.M i z).map LRow.text)))) hD2 (fun H' s => s _ _ fI) rfl ?_ ?_
      · rintro j y l2 H5 H6 hj hl2 s5 e5 r ⟨rfl, k, u, hk, rfl⟩
        obtain ⟨z, hz, rfl, rfl⟩ := tblD_get hk
        have hzm := List.mem_of_getElem? hz
        have hj8 : j < A1.ns.length := (List.getElem?_eq_some_iff.mp hz).1
        refine ⟨rfl, _, rfl, _, rfl, _, rfl, A1.tb i, .ref (A1.inn i z), rfl, tblD_val (g := A1.inn i) hzm ▸ DGet.f (k := Sum.inr z) (s5 _ _ fI), A1.inn i z, _, rfl, lI s5 z hzm, ?_⟩
        rw [lDict_in]
        exact lc_takeF hD2 (by omega) hl2 s5 e5 r (ixMap_at (f := fun z => V.bl (decide (e.text ∈ (m.M i z).map LRow.text))) hz).symm
      · intro l2 H5 hl2 s5 e5 r
        have r := rf_map r (by unfold tblD; rw [List.length_map])
        refine ⟨s5 _ _ fI, D2, A1.ns.map fun z => decide (e.text ∈ (m.M i z).map LRow.text), rfl, SqL.of (by rw [upd_ne nD2, e5, r, List.map_map]; rfl), ?_⟩
        have eb : ((A1.ns.map fun z => decide (e.text ∈ (m.M i z).map LRow.text)).all id) = A1.ns.all fun z => decide (e.text ∈ (m.M i z).map LRow.text) := by rw [List.all_map]; rfl
        rw [eb]
        have s6 := s.trans (sI s5)
        have nDD : D ≠ A1.tb i := fun z => by rw [z, tbL] at hD; cases hD
        have e6 : (upd H5 (A1.tb i) (.dK (tblD A1.ns (A1.inn i)))) D = some (.lst ((((m.M i i).take n).filter fun e => A1.ns.all fun z => decide (e.text ∈ (m.M i z).map LRow.text)).map fun e => V.str e.text)) := sI s5 _ _ e3
        refine ⟨_, rfl, iteB (fun hb => ?_) (fun hb => ?_)⟩
        · refine ⟨_, rfl, lc_take hD (by omega) hl s6 e6 ?_⟩
          rw [take_snoc he, List.filter_append, List.map_append, List.filter_cons_of_pos (p := fun e : LRow => A1.ns.all fun z => decide (e.text ∈ (m.M i z).map LRow.text)) hb, List.filter_nil]
          rfl
        · refine lc_skip hl s6 e6 ?_
          rw [take_snoc he, List.filter_append, List.map_append, List.filter_cons_of_neg (p := fun e : LRow => A1.ns.all fun z => decide (e.text ∈ (m.M i z).map LRow.text)) (by rw [hb]; exact Bool.false_ne_true), List.filter_nil]
          exact (List.append_nil _).symm
    · intro l H3 hl s3 e3 r
      have ll : (lDict (m.M i i)).length = (m.M i i).length := by unfold lDict; rw [List.length_map]
      rw [ll, List.take_length] at r
      have r : l = (allL m.M A1.ns i).map fun e => V.str e.text := r
      have nD : D ≠ A1.inn i i := fun z => by rw [z, fL] at hD; cases hD
      refine ⟨s3 _ _ fL, ?_⟩
      have s4 := sU s3
      have at4 := at1.same s4
      have o4 := s4 _ _ o1
      have eD4 : (upd H3 (A1.inn i i) (.dK (lDict (m.M i i)))) D = some (.lst ((allL m.M A1.ns i).map fun e => V.str e.text)) := by rw [upd_ne nD, e3, r]
      generalize upd H3 (A1.inn i i) (.dK (lDict (m.M i i))) = H4 at s4 at4 o4 eD4 ⊢
      have gM := at4.good i hi i hi
      have gA : GoodS K H4 U ks (allL m.M A1.ns i) := ⟨fun e he => gM.1 e (List.mem_filter.mp he).1, (List.filter_sublist.map LRow.text).nodup gM.2⟩
      have lA := gA.len
      refine ⟨_, rfl, A1.p, dp, _, rfl, o4, places_no.2.2.1, _, rfl, D, rfl, ⟨_, SqL.of eD4⟩, fun D2 hD2 => dc_rel walk_list (fun n kvs _ => kvs = lDict ((allL m.M A1.ns i).take n)) hD2 (fun H' s => SqL.of (s _ _ eD4)) rfl ?_ ?_⟩
      · rintro n x kvs H5 H6 hn hl2 s5 e5 r2 ⟨rfl, hx⟩
        obtain ⟨e, he, rfl⟩ := getMap hx
        have heA := List.mem_of_getElem? he
        have heM := (List.mem_filter.mp heA).1
        have at5 := at4.same s5
        have hn2 : n < (allL m.M A1.ns i).length := (List.getElem?_eq_some_iff.mp he).1
        refine ⟨rfl, _, rfl, _, rfl, _, rfl, A1.tb i, .ref (A1.inn i i), rfl, tblD_val (g := A1.inn i) hi ▸ DGet.k (k := Sum.inr i) (at5.tb i hi), _, rfl, A1.inn i i, .ref e.a, rfl, lDict_get gM.2 heM ▸ DGet.k (k := Sum.inr e.text) (at5.inn i hi i hi), dc_put (k := Sum.inr e.text) hD2 (by omega) hl2 s5 e5 ?_⟩
        rw [r2, take_snoc he, putK_app]
        · unfold lDict
          rw [List.map_append]
          rfl
        · intro hk
          unfold lDict at hk
          rw [List.map_map] at hk
          obtain ⟨z, hz, ez⟩ := List.mem_map.mp hk
          have ez : z.text = e.text := Sum.inr.inj ez
          have hd : e ∈ (allL m.M A1.ns i).drop n := by
            obtain ⟨hi2, e2⟩ := List.getElem?_eq_some_iff.mp he
            rw [← e2]
            exact List.mem_drop_iff_getElem.mpr ⟨0, by omega, by simp⟩
          have nz2 := gA.2
          rw [← List.take_append_drop n (allL m.M A1.ns i), List.map_append] at nz2
          exact (List.nodup_append.mp nz2).2.2 _ (List.mem_map.mpr ⟨z, hz, rfl⟩) _ (List.mem_map.mpr ⟨_, hd, rfl⟩) ez
      · intro kvs H5 hl2 s5 e5 r2
        rw [List.length_map, List.take_length] at r2
        subst r2
        have s45 := s4.trans s5
        have at5 := at4.same s5
        have gA5 : GoodS K H5 U ks (allL m.M A1.ns i) := ⟨fun e he => (at5.good i hi i hi).1 e (List.mem_filter.mp he).1, gA.2⟩
        exact ⟨_, _, rfl, A1.p, dp, A1.f, _, _, _, D2, allL m.M A1.ns i, ks, rfl, s5 _ _ o4, at5.fo, ok.fl, rfl, e5, gA5.at, by omega, gA5.2, ok.k, ok.fk, fun e he => (gA5.1 e he).2.2, fun H' y l' s' _ eT hst => q H' y ((s1.trans s45).trans s') (eT ▸ hst)⟩
end
end Lv
set_option maxHeartbeats 4000000
namespace Lv
open PySem PySem.Spec PyProof.Rows L2
theorem places_no3 {v0 v1 v2 v3 : V} : (fl_Places v0 v1 v2 v3).lookup ("known" : Str) = none ∧ (fl_Places v0 v1 v2 v3).lookup ("known_by_all" : Str) = none :=
  ⟨fl_Places_no _ _ _ _ (by decide +kernel) (by decide +kernel) (by decide +kernel) (by decide +kernel), fl_Places_no _ _ _ _ (by decide +kernel) (by decide +kernel) (by decide +kernel) (by decide +kernel)⟩
theorem texF_perm (l : List LRow) : (texF l).Perm l := by
  unfold texF
  have h := (List.mergeSort_perm l.zipIdx leT).map (·.1)
  have e : l.zipIdx.map (·.1) = l := by simp
  rwa [e] at h
theorem Rel.text {names ns : List Str} {UL : List LR} {mp : PlM} {mn : NetM} (h : Rel ns mp mn) (hU : ULok names UL) (gN : ∀ i ∈ ns, ∀ j ∈ ns, ∀ x ∈ mn.N i j, x ∈ UL) {i j : Str} (hi : i ∈ ns) (hj : j ∈ ns) {e : LRow} (he : e.lr ∈ UL) : e.text ∈ (mp.M i j).map LRow.text ↔ e.lr ∈ mn.N i j := by
  constructor
  · intro hx
    obtain ⟨a, ha, ea⟩ := List.mem_map.mp hx
    have h1 : a.lr ∈ UL := gN i hi j hj _ ((h.S i hi j hj _).mp (List.mem_map_of_mem ha))
    have e3 : a.lr = e.lr := lrInj hU h1 he ea
    rw [← e3]
    exact (h.S i hi j hj _).mp (List.mem_map_of_mem ha)
  · intro hx
    obtain ⟨a, ha, ea⟩ := List.mem_map.mp ((h.S i hi j hj _).mpr hx)
    rw [text_lr, ← ea]
    exact List.mem_map_of_mem (f := LRow.text) ha
section
variable {P : Program} {w : World} {K : PySem.W.Frag} {mg : Str → Option Value} {base : Heap}
def sp_law_net_sure_right (P : Program) (w : World) (K : PySem.W.Frag) : Sp := sp4 fun v x0 x1 x2 H Q => ∃ (U ks names : List Str) (UL : List LR) (A : PlA) (mp : PlM) (B : NetA) (mn : NetM) (i : Str), v = .ref A.p ∧ x0 = .ref A.f.x ∧ x1 = .ref B.p ∧ x2 = .str i ∧ Both P w K U ks names UL H A mp B mn ∧ i ∈ A.ns ∧ ∀ H', Same H H' → Q (.bl true) H'
abbrev N__law_net_sure_right : List Str := ["places", "forum", "net", "place", "sure", "other", "every", "row"]
theorem sc__law_net_sure_right : FnScope N__law_net_sure_right ["places", "forum", "net", "place"] (defScope s__law_net_sure_right) := ⟨rfl, rfl, rfl, by decide +kernel, rfl, by decide +kernel, by decide +kernel⟩
theorem ok__law_net_sure_right (T : Txt K mg) : CallOk P w K mg base 16 "_law_net_sure_right" ["places", "forum", "net", "place"] [] (sp_law_net_sure_right P w K) := by
  refine call_ok T 90 T.g__law_net_sure_right sc__law_net_sure_right (fun vs H Q E h => ?_) (fun f cdv A outer s H vs Q E hr h => ?_) (fun _ _ _ _ _ _ us hl => match us, hl with | [_, _, _, _], _ => rfl)
  · obtain ⟨x0, x1, x2, x3, rfl, _⟩ := h
    rfl
  · have nd := sc__law_net_sure_right.nd
    have hu := hu_of hr
    have hu64 := hu64_of hr
    have c__law_is_state := ok__law_is_state (P := P) (w := w) (base := base) T
    have c_Places_known := ok_Places_known (P:=P) (w:=w) (base:=base) T
    have c_Places_known_by_all := ok_Places_known_by_all (P:=P) (w:=w) (base:=base) T
    obtain ⟨x0, x1, x2, x3, rfl, h⟩ := h
    refine ⟨_, (pss_cons (ps_set (i := 4) nd rfl (Or.inr rfl) (pe_dget hu (pe_dget hu (pv 2) pe_str (fun _ _ => rfl)) (pv 3) (fun _ _ => rfl))) (pss_cons (ps_for PassesOwn.never rfl (pi_list (pe_dget hu (pv 2) pe_str (fun _ _ => rfl))) (pg_name (i := 5) nd rfl (Or.inl rfl)) (pss_one (ps_if (pt_not (pt_val (pe_callO c__law_is_state (hr.mono (by first | decide | omega)) (pa_cons (pe_methO c_Places_known (hr.mono (by first | decide | omega)) (pv 0) (pa_cons (pv 3) (pa_cons (pv 5) pa_nil))) (pa_cons (pv 1) (pa_cons (pe_callTy (call_listN (P := P) (w := w)) (by rfl) T.b_list boot_list (pa_cons (pe_dget hu (pv 4) (pv 5) (fun _ _ => rfl)) pa_nil)) pa_nil)))))) (pss_one (ps_ret pe_bl)) pss_nil))) (pss_cons (ps_lock (ps_setLc (i := 6) (own := [("row", 7)]) (g := (gName 7)) rfl nd rfl rfl (sw_true rfl rfl rfl (by decide +kernel)) (pi_keysN (P := P) (w := w) (pe_dget hu (pv 4) (pv 3) (fun _ _ => rfl))) (blkOk_by (own := [("row", 7)]) (N := N__law_net_sure_right) (sc := defScope s__law_net_sure_right) (by decide +kernel)) (fun _ _ _ _ _ => (pg_name (i := 7) nd rfl (Or.inr rfl))) (fun _ _ _ _ _ => (pts_one (pt_val (pe_callB (allK (K := K)) (by rfl) T.b_all boot_all (pa_cons (pe_lc (own := [("other", 5)]) (g := (gName 5)) (tt := tYes) rfl nd (pi_listK (K := K) (pe_dget hu (pv 2) pe_str (fun _ _ => rfl))) (blkOk_in (own := [("other", 5)]) (N := N__law_net_sure_right) (sc := defScope s__law_net_sure_right) (by decide +kernel)) (fun _ _ _ _ _ => (pg_name (i := 5) nd rfl (Or.inl rfl))) (fun _ _ _ _ _ => pts_nil) (fun _ _ _ _ _ => (pe_cmp (pc_nin (P := P) (w := w) hu64 (pv 7) (pe_dget hu (pv 4) (pv 5) (fun _ _ => rfl)))))) pa_nil))))) (fun _ _ _ _ _ => (pv 7)))) (pss_one (ps_ret (pe_callO c__law_is_state (hr.mono (by first | decide | omega)) (pa_cons (pe_methO c_Places_known_by_all (hr.mono (by first | decide | omega)) (pv 0) (pa_cons (pv 3) pa_nil)) (pa_cons (pv 1) (pa_cons (pv 6) pa_nil))))))))), ?_⟩
    obtain ⟨U, ks, names, UL, A1, mp, B, mn, i, rfl, rfl, rfl, rfl, bo, hi, q⟩ := h
    have z1001 : (1001 : Nat) < sizeLine := by decide
    obtain ⟨dp, o⟩ := bo.pa.op
    have hiB : i ∈ B.ns := by rw [bo.ns]; exact hi
    have g0 : ∀ {H : Hp} {v0 v1 v2 v3 : V}, H B.p = some (.dK (dd_net v0 v1 v2 v3)) → DGet H B.p (kV (Sum.inr "names")) (some v0) ∧ DGet H B.p (kV (Sum.inr "sure")) (some v1) := fun e =>
      ⟨dd_net_names .. ▸ DGet.k (k := Sum.inr "names") e, dd_net_sure .. ▸ DGet.k (k := Sum.inr "sure") e⟩
    have hU1000 := bo.pk.u
    have hn1000 := bo.nk.u
    have ssn : ∀ z ∈ B.ss, z ∈ A1.ns := fun z hz => by rw [← bo.ns]; exact bo.nk.ss.mem_iff.mp hz
    have lss : B.ss.length ≤ 8 := by rw [bo.nk.ss.length_eq]; exact bo.nk.ns.2.2.1
    have gNN : ∀ i ∈ A1.ns, ∀ j ∈ A1.ns, ∀ x ∈ mn.N i j, x ∈ UL := fun i hi j hj => (bo.na.good i (by rw [bo.ns]; exact hi) j (by rw [bo.ns]; exact hj)).2
    refine ⟨_, rfl, B.p, _, rfl, (g0 bo.na.op).2, _, rfl, B.su, .ref (B.tb i), rfl, tblD_val (g := B.tb) hiB ▸ DGet.k (k := Sum.inr i) bo.na.su, ?_⟩
    refine ⟨_, rfl, B.p, _, rfl, (g0 bo.na.op).1, B.nl, rfl, ⟨_, SqL.of bo.na.nl⟩, for_it walk_list (fun n σ H2 => ∃ (v5 : Option V), σ = [some (.ref A1.p), some (.ref A1.f.x), some (.ref B.p), some (.str i), some (.ref (B.tb i)), v5, none, none] ∧ Same H H2)
      ⟨_, rfl, fun _ _ e => e⟩ (fun n σ H2 _ ⟨_, _, s⟩ => SqL.of (s _ _ bo.na.nl)) ?_ ?_⟩
    · rintro n x σ H2 H3 hn ⟨v5, rfl, s⟩ ⟨rfl, hx⟩
      obtain ⟨z, hz, rfl⟩ := getMap hx
      have hzA := ssn z (List.mem_of_getElem? hz)
      have hzB : z ∈ B.ns := by rw [bo.ns]; exact hzA
      have bo1 := bo.same s
      refine ⟨_, rfl, A1.p, dp, _, rfl, s _ _ o, places_no3.1, _, rfl, _, rfl, _, _, _, rfl, U, ks, A1, mp, i, z, rfl, bo.pk, bo1.pa, rfl, hi, rfl, hzA, fun H4 y s4 y4 => ⟨_, rfl, ?_⟩⟩
      have bo4 := bo1.same s4
      refine ⟨_, rfl, _, rfl, B.tb i, .ref (B.inn i z), rfl, tblD_val (g := B.inn i) hzB ▸ DGet.k (k := Sum.inr z) (bo4.na.tb i hiB), B.inn i z, LR, lrDt, kvN (mn.N i z), kLR, rfl, bo4.na.inn i hiB z hzB, fun r vs hr tvr => ?_⟩
      have s5 := same_new (o := .lst vs) hr
      have bo5 := bo4.same s5
      have gM := bo5.pa.good i hi z hzA
      have gN := bo5.na.good i hiB z hzB
      have lM := gM.len
      have lN := gN.len
      have pm := texF_perm (mp.M i z)
      have lp := pm.length_eq
      have tvr2 : TvAll (upd H4 r (.lst vs)) ((mn.N i z).map lrDt) vs := by
        have e : ((kvN (mn.N i z)).map fun kv => lrDt kv.1) = (mn.N i z).map lrDt := by
          unfold kvN
          rw [List.map_map]
          rfl
        rw [← e]
        exact tvr.keep (tk_same s5)
      exact ⟨_, _, _, rfl, y, A1.f, texF (mp.M i z), r, mn.N i z, rfl, y4.same s5, rfl, bo5.pa.fo, fun e he => (gM.1 e (pm.mem_iff.mp he)).1, by omega, rfl, ⟨vs, upd_same, tvr2⟩, gN.1, by omega, ((pm.map LRow.lr).nodup_iff).mpr (lr_nodup gM.2), fun x => ((pm.map LRow.lr).mem_iff).trans (bo.rel.S i hi z hzA x), fun H6 s6 => ⟨_, rfl, iteF ⟨_, rfl, ((s.trans s4).trans s5).trans s6⟩⟩⟩
    · rintro σ H2 ⟨v5, rfl, s⟩
      have bo2 := bo.same s
      have gN := bo2.na.good i hiB i hiB
      have lN := gN.len
      obtain ⟨xs, ex, pr⟩ := bo2.na.inn i hiB i hiB
      have lxs : xs.length = (mn.N i i).length := by
        have := Paired.length pr
        rw [kvN_len] at this
        exact this.symm
      refine ⟨B.inn i i, _, ex, trivial, fun od => ?_⟩
      have tbL : (upd H2 (B.inn i i) (.frz od (.ext (NdRaw P w (B.inn i i) xs)))) (B.tb i) = some (.dK (tblD B.ns (B.inn i))) := by rw [upd_ne fun q => bo.nk.tw i hiB (.inr (.inr ⟨i, hiB, i, hiB, q⟩))]; exact bo2.na.tb i hiB
      have opL : (upd H2 (B.inn i i) (.frz od (.ext (NdRaw P w (B.inn i i) xs)))) B.p = some (.dK (dd_net (.ref B.nl) (.ref B.su) (.int mn.sent) (.ref B.way))) := by rw [upd_ne (bo.nk.pi i hiB i hiB).symm]; exact bo2.na.op
      have kL : Tk H2 (upd H2 (B.inn i i) (.frz od (.ext (NdRaw P w (B.inn i i) xs)))) := tk_mut ex (by intro _ z; cases z)
      have nlL : (upd H2 (B.inn i i) (.frz od (.ext (NdRaw P w (B.inn i i) xs)))) B.nl = some (.lst (B.ss.map V.str)) := by
        rw [upd_ne fun q => by
          have := bo2.na.nl
          rw [q, ex] at this
          cases this]
        exact bo2.na.nl
      have prL := NE.keeps kL pr
      have fL : (upd H2 (B.inn i i) (.frz od (.ext (NdRaw P w (B.inn i i) xs)))) (B.inn i i) = some (.frz od (.ext (NdRaw P w (B.inn i i) xs))) := upd_same
      have rdL : ∀ z ∈ B.ns, NdRd P w (upd H2 (B.inn i i) (.frz od (.ext (NdRaw P w (B.inn i i) xs)))) (B.inn i z) lrDt (kvN (mn.N i z)) := fun z hz => by
        by_cases hq : B.inn i z = B.inn i i
        · rw [(bo.nk.inj i hiB z hz i hiB i hiB hq).2]
          exact ⟨xs, .inr ⟨od, fL⟩, prL⟩
        · exact ((bo2.na.inn i hiB z hz).keep kL (upd_ne hq)).rd
      have sU : ∀ {H' : Hp}, Same (upd H2 (B.inn i i) (.frz od (.ext (NdRaw P w (B.inn i i) xs)))) H' → Same H2 (upd H' (B.inn i i) (.ext (NdRaw P w (B.inn i i) xs))) := fun s => same_unlock ex s
      generalize upd H2 (B.inn i i) (.frz od (.ext (NdRaw P w (B.inn i i) xs))) = HL at tbL opL kL nlL prL fL rdL sU ⊢
      have rdS : ∀ {H' : Hp}, Same HL H' → ∀ z ∈ B.ns, NdRd P w H' (B.inn i z) lrDt (kvN (mn.N i z)) := fun s z hz => by
        obtain ⟨xs, h1, h2⟩ := rdL z hz
        exact ⟨xs, h1.imp (fun h => s _ _ h) (fun ⟨o, h⟩ => ⟨o, s _ _ h⟩), NE.keeps (tk_same s) h2⟩
      refine ⟨_, rfl, _, rfl, B.tb i, .ref (B.inn i i), rfl, tblD_val (g := B.inn i) hiB ▸ DGet.k (k := Sum.inr i) tbL, B.inn i i, od, xs, rfl, fL, fun D hD => lc_rel walk_keysN (fun j l H' => TvAll H' ((((mn.N i i).take j).filter fun x => B.ss.all fun z => decide (x ∈ mn.N i z)).map lrDt) l) hD (fun H' s => s _ _ fL) trivial ?_ ?_⟩
      · rintro j y l H3 H4 hj hl s3 e3 r ⟨rfl, en, hen, rfl⟩
        obtain ⟨p, hp, c1, c2, c3⟩ := paired_getR prL hen
        obtain ⟨x, hx, rfl⟩ := kvN_get hp
        have tx := c2.keep (tk_same s3)
        refine ⟨rfl, _, rfl, B.p, _, rfl, (g0 (s3 _ _ opL)).1, B.nl, rfl, ⟨_, SqL.of (s3 _ _ nlL)⟩, fun D2 hD2 => lc_rel walk_list (RF (ixMap B.ss fun z => V.bl (decide (x ∈ mn.N i z)))) hD2 (fun H' s => SqL.of (s _ _ (s3 _ _ nlL))) rfl ?_ ?_⟩
        · rintro j2 y2 l2 H5 H6 hj2 hl2 s5 e5 r2 ⟨rfl, hy2⟩
          obtain ⟨z, hz, rfl⟩ := getMap hy2
          have hzB : z ∈ B.ns := by rw [bo.ns]; exact ssn z (List.mem_of_getElem? hz)
          have hj8 : j2 < B.ss.length := (List.getElem?_eq_some_iff.mp hz).1
          refine ⟨rfl, _, rfl, _, rfl, _, rfl, B.tb i, .ref (B.inn i z), rfl, tblD_val (g := B.inn i) hzB ▸ DGet.k (k := Sum.inr z) ((s3.trans s5) _ _ tbL), B.inn i z, _, rfl, ⟨LR, inferInstance, lrDt, kvN (mn.N i z), x, en.2.1, kLR, rdS (s3.trans s5) z hzB, rfl, tx.keep (tk_same s5), rfl⟩, ?_⟩
          refine lc_takeF hD2 (by omega) hl2 s5 e5 r2 ?_
          rw [kvN_val]
          refine Eq.trans ?_ (ixMap_at (f := fun z => V.bl (decide (x ∈ mn.N i z))) hz).symm
          by_cases hm : x ∈ mn.N i z
          · rw [if_pos hm, decide_eq_true hm]
            rfl
          · rw [if_neg hm, decide_eq_false hm]
            rfl
        · intro l2 H5 hl2 s5 e5 r2
          have r2 := rf_map r2 (by rw [List.length_map])
          refine ⟨D2, B.ss.map fun z => decide (x ∈ mn.N i z), rfl, SqL.of (by rw [e5, r2, List.map_map]; rfl), ?_⟩
          have eb : ((B.ss.map fun z => decide (x ∈ mn.N i z)).all id) = B.ss.all fun z => decide (x ∈ mn.N i z) := by rw [List.all_map]; rfl
          rw [eb]
          have s6 := s3.trans s5
          have e6 := s5 _ _ e3
          have r6 := r.keep (tk_same s5)
          refine ⟨_, rfl, iteB (fun hb => ?_) (fun hb => ?_)⟩
          · refine ⟨_, rfl, lc_take hD (by omega) hl s6 e6 ?_⟩
            rw [take_snoc hx, List.filter_append, List.map_append, List.filter_cons_of_pos (p := fun x : LR => B.ss.all fun z => decide (x ∈ mn.N i z)) hb, List.filter_nil]
            have kD : Tk H5 (upd H5 D (.lst (l ++ [V.ref en.2.1]))) := tk_mut e6 (by intro _ z; cases z)
            exact (r6.keep kD).app (TvAll.one ((tx.keep (tk_same s5)).keep kD))
          · refine lc_skip hl s6 e6 ?_
            rw [take_snoc hx, List.filter_append, List.map_append, List.filter_cons_of_neg (p := fun x : LR => B.ss.all fun z => decide (x ∈ mn.N i z)) (by rw [hb]; exact Bool.false_ne_true), List.filter_nil, List.map_nil, List.append_nil]
            exact r6
      · intro l H3 hl s3 e3 r
        rw [lxs, List.take_length] at r
        have nD : D ≠ B.inn i i := fun z => by rw [z, fL] at hD; cases hD
        refine ⟨s3 _ _ fL, ?_⟩
        have s4 := s.trans (sU s3)
        have kE : Tk H3 (upd H3 (B.inn i i) (.ext (NdRaw P w (B.inn i i) xs))) := tk_mut (s3 _ _ fL) (by intro _ z; cases z)
        have r4 := r.keep kE
        have eD4 : (upd H3 (B.inn i i) (.ext (NdRaw P w (B.inn i i) xs))) D = some (.lst l) := by rw [upd_ne nD]; exact e3
        generalize upd H3 (B.inn i i) (.ext (NdRaw P w (B.inn i i) xs)) = H4 at s4 r4 eD4 ⊢
        have bo4 := bo.same s4
        refine ⟨_, rfl, A1.p, dp, _, rfl, s4 _ _ o, places_no3.2, _, rfl, _, _, rfl, U, ks, A1, mp, i, rfl, bo.pk, bo4.pa, rfl, hi, fun H5 y s5 y5 => ⟨_, rfl, _, rfl, ?_⟩⟩
        have bo5 := bo4.same s5
        have gM := bo5.pa.good i hi i hi
        have gA : GoodS K H5 U ks (allL mp.M A1.ns i) := ⟨fun e he => gM.1 e (List.mem_filter.mp he).1, (List.filter_sublist.map LRow.text).nodup gM.2⟩
        have lA := gA.len
        have pm := texF_perm (allL mp.M A1.ns i)
        have lp := pm.length_eq
        have lF : ((mn.N i i).filter fun x => B.ss.all fun z => decide (x ∈ mn.N i z)).length ≤ (mn.N i i).length := List.length_filter_le _ _
        refine ⟨_, _, _, rfl, y, A1.f, texF (allL mp.M A1.ns i), D, (mn.N i i).filter fun x => B.ss.all fun z => decide (x ∈ mn.N i z), rfl, y5, rfl, bo5.pa.fo, fun e he => (gA.1 e (pm.mem_iff.mp he)).1, by omega, rfl, ⟨l, s5 _ _ eD4, r4.keep (tk_same s5)⟩, List.filter_sublist.nodup gN.1, by omega, ((pm.map LRow.lr).nodup_iff).mpr (lr_nodup gA.2), fun x => ((pm.map LRow.lr).mem_iff).trans ?_, fun H6 s6 => q _ ((s4.trans s5).trans s6)⟩
        have inU : ∀ e ∈ mp.M i i, e.lr ∈ UL := fun e he => gNN i hi i hi _ ((bo.rel.S i hi i hi _).mp (List.mem_map_of_mem he))
        constructor
        · intro hx
          obtain ⟨e, he, rfl⟩ := List.mem_map.mp hx
          obtain ⟨he1, he2⟩ := List.mem_filter.mp he
          refine List.mem_filter.mpr ⟨(bo.rel.S i hi i hi _).mp (List.mem_map_of_mem he1), List.all_eq_true.mpr fun z hz => decide_eq_true ?_⟩
          exact (bo.rel.text bo.ul gNN hi (ssn z hz) (inU e he1)).mp (of_decide_eq_true (List.all_eq_true.mp he2 z (ssn z hz)))
        · intro hx
          obtain ⟨hx1, hx2⟩ := List.mem_filter.mp hx
          obtain ⟨e, he, rfl⟩ := List.mem_map.mp ((bo.rel.S i hi i hi _).mpr hx1)
          refine List.mem_map_of_mem (List.mem_filter.mpr ⟨he, List.all_eq_true.mpr fun z hz => decide_eq_true ?_⟩)
          have hzs : z ∈ B.ss := bo.nk.ss.mem_iff.mpr (by rw [bo.ns]; exact hz)
          exact (bo.rel.text bo.ul gNN hi hz (inU e he)).mpr (of_decide_eq_true (List.all_eq_true.mp hx2 z hzs))
end
end Lv
set_option maxHeartbeats 4000000
namespace Lv
open PySem PySem.Spec PyProof.Rows L2
def TruthP (ns : List Str) (m : PlM) : Prop := (∀ i ∈ ns, ∀ j ∈ ns, ∀ t, t ∈ (m.M i j).map LRow.text → t ∈ (m.M j j).map LRow.text) ∧ ∀ g ∈ m.ms, ∀ j ∈ ns, ∀ t, t ∈ (g.kl j).map LRow.text → t ∈ (m.M j j).map LRow.text
theorem truth_start {ns : List Str} : TruthP ns ⟨fun _ _ => [], [], 0⟩ := ⟨fun _ _ _ _ _ h => (by simp at h), fun _ h => (by simp at h)⟩
theorem truth_step {ns : List Str} {UL : List LR} {m m' : PlM} {d : Deed} (h : TruthP ns m) (ok : m.okD ns UL d) (sp : StepP ns m m' d) : TruthP ns m' := by
  obtain ⟨h1, h2⟩ := h
  cases d with
  | write z x =>
    obtain ⟨e, _, rfl⟩ := sp
    have up : ∀ j t, t ∈ (m.M j j).map LRow.text → t ∈ (setM m.M z z (putL (m.M z z) e) j j).map LRow.text := fun j t ht => by
      unfold setM
      by_cases q : j = z ∧ j = z
      · rw [if_pos q, putL_text]
        rw [q.1] at ht
        exact .inl ht
      · rw [if_neg q]
        exact ht
    refine ⟨fun i hi j hj t ht => ?_, fun g hg j hj t ht => up j t (h2 g hg j hj t ht)⟩
    by_cases q : i = z ∧ j = z
    · obtain ⟨rfl, rfl⟩ := q
      exact ht
    · have ht : t ∈ (setM m.M z z (putL (m.M z z) e) i j).map LRow.text := ht
      unfold setM at ht
      rw [if_neg q] at ht
      exact up j t (h1 i hi j hj t ht)
  | send a b =>
    obtain ⟨g, rfl, _, _, _, gk⟩ := sp
    refine ⟨h1, fun g' hg j hj t ht => ?_⟩
    rcases List.mem_append.mp hg with hg | hg
    · exact h2 g' hg j hj t ht
    · obtain rfl := List.mem_singleton.mp hg
      rw [gk j hj] at ht
      exact h1 a ok.1 j hj t ht
  | deliver k =>
    obtain ⟨g, hf, rfl⟩ := sp
    have hg := List.mem_of_find?_eq_some hf
    have up : ∀ j t, t ∈ (m.M j j).map LRow.text → t ∈ (deliverM m.M g j j).map LRow.text := fun j t ht => by
      unfold deliverM
      by_cases q : j = g.m.to
      · rw [if_pos q, if_pos q, mergeL_text, mergeL_text]
        exact .inl (.inl ht)
      · rw [if_neg q]
        exact ht
    refine ⟨fun i hi j hj t ht => ?_, fun g' hg' j hj t ht => up j t (h2 g' hg' j hj t ht)⟩
    by_cases q : i = j
    · rw [q] at ht
      exact ht
    · have ht : t ∈ (deliverM m.M g i j).map LRow.text := ht
      unfold deliverM at ht
      by_cases qi : i = g.m.to
      · rw [if_pos qi, if_neg (fun z => q (qi.trans z.symm)), mergeL_text] at ht
        rcases ht with ht | ht
        · exact up j t (h1 i hi j hj t ht)
        · exact up j t (h2 g hg j hj t ht)
      · rw [if_neg qi] at ht
        exact up j t (h1 i hi j hj t ht)
  | lose k =>
    obtain rfl : m' = _ := sp
    exact ⟨h1, fun g hg j hj t ht => h2 g (List.mem_filter.mp hg).1 j hj t ht⟩
theorem state_no {v0 v1 v2 v3 v4 v5 v6 v7 : V} : (fl_State v0 v1 v2 v3 v4 v5 v6 v7).lookup ("is_part_of" : Str) = none :=
  fl_State_no _ _ _ _ _ _ _ _ (by decide +kernel) (by decide +kernel) (by decide +kernel) (by decide +kernel) (by decide +kernel) (by decide +kernel) (by decide +kernel) (by decide +kernel)
theorem stateT_of {K : PySem.W.Frag} {U ks : List Str} {H : Hp} {A : PlA} {m : PlM} {Q : VK} {i : Str} (ok : A.Ok U ks) (h : PlAt K U ks H A m) (hi : i ∈ A.ns) (q : ∀ H' y, Same H H' → StateAt K H' y A.f.x (texF (m.M i i)) → Q (.ref y) H') : sp_state K [.ref A.p, .str i] H Q E0 := by
  obtain ⟨dp, o⟩ := h.op
  have g := h.good i hi i hi
  have l1 := g.len
  have hu := ok.u
  exact ⟨_, _, rfl, A.p, dp, A.su, A.tb i, A.f, _, _, _, _, i, A.inn i i, m.M i i, ks, rfl, o, h.fo, ok.fl, h.su, rfl, ok.ns.2.2.2 i hi, tblD_val hi, h.tb i hi, tblD_val hi, h.inn i hi i hi, g.at, by omega, g.2, ok.k, ok.fk, fun e he => (g.1 e he).2.2, fun H' y l' s hp eT hst => q H' y s (eT ▸ hst)⟩
section
variable {P : Program} {w : World} {K : PySem.W.Frag} {mg : Str → Option Value} {base : Heap}
def sp_law (K : PySem.W.Frag) : Sp := sp1 fun v H Q => ∃ (l : Addr) (ns : List Int), v = .ref l ∧ SqL K H l (ns.map V.int) ∧ ns.length ≤ 63 ∧ Tab3 K H ∧ ∀ H', Q (.bl true) H'
abbrev N_law : List Str := ["script", "pen", "names", "rows", "letters", "spots", "forum", "net", "places", "deed", "spot", "other"]
theorem sc_law : FnScope N_law ["script"] (defScope s_law) := ⟨rfl, rfl, rfl, by decide +kernel, rfl, by decide +kernel, by decide +kernel⟩
theorem ok_law (T : Txt K mg) (TBs : TabsOk K mg base) {f : Addr} {fd : FuncData} (F : FunD K "law" "law" (defArgs s_law) (defBody s_law) (defScope s_law) [] [] f fd) : FnOk P w K mg base CX0 18 f fd ["script"] (sp_law K) := by
  refine funD_ok F sc_law (fun vs H Q E h => ?_) (fun cdv A outer s H vs Q E hr h => ?_)
  · obtain ⟨x0, rfl, _⟩ := h
    rfl
  · have nd := sc_law.nd
    have hu := hu_of hr
    have hu64 := hu64_of hr
    have c__law_pen := ok__law_pen (P:=P) (w:=w) (base:=base) T
    have c__law_net := ok__law_net (P := P) (w := w) (base := base) T
    have c__law_net_deed := ok__law_net_deed (P := P) (w := w) (base := base) T
    have c__law_net_do := ok__law_net_do (P := P) (w := w) (base := base) T
    have c__law_net_sure_right := ok__law_net_sure_right (P := P) (w := w) (base := base) T
    have c__law_net_story := ok__law_net_story (P := P) (w := w) (base := base) T
    have c_Places := ok_Places_init (P:=P) (w:=w) (base:=base) T
    have c_Places_known := ok_Places_known (P := P) (w := w) (base := base) T
    have c_Places_state := ok_Places_state (P := P) (w := w) (base := base) T
    have c_State_is_part_of := ok_State_is_part_of (P := P) (w := w) (base := base) T
    have c_State_eq := ok_State_eq (P := P) (w := w) (base := base) T
    have c__law_world := ok__law_world (P := P) (w := w) (base := base) T
    have c__law_more_letters := ok__law_more_letters (P := P) (w := w) (base := base) T
    have c__law_names := ok__law_names (P := P) (w := w) (base := base) T
    have c__law_pick := ok__law_pick (P := P) (w := w) (base := base) T
    have c__law_draw := ok__law_draw (P := P) (w := w) (base := base) T
    have c__law_made_forum := ok__law_made_forum (P:=P) (w:=w) (base:=base) T TBs
    obtain ⟨x0, rfl, h⟩ := h
    refine ⟨_, (pss_cons (ps_set (i := 1) nd rfl (Or.inl rfl) (pe_callO c__law_pen (hr.mono (by first | decide | omega)) (pa_cons (pv 0) pa_nil))) (pss_cons (ps_asg (pe_callO c__law_world (hr.mono (by first | decide | omega)) (pa_cons (pv 1) (pa_cons pe_int (pa_cons pe_int (pa_cons pe_int pa_nil))))) (pg_tup rfl (pgs_cons (pg_name (i := 2) nd rfl (Or.inl rfl)) (pgs_cons (pg_name (i := 3) nd rfl (Or.inl rfl)) (pgs_cons (pg_name (i := 4) nd rfl (Or.inl rfl)) pgs_nil))))) (pss_cons (ps_set (i := 4) nd rfl (Or.inl rfl) (pe_op op_cat (pe_slice (slLK (K := K)) (pe_op op_cat (pv 4) (pe_callO c__law_more_letters (hr.mono (by first | decide | omega)) (pa_cons (pv 1) (pa_cons (pv 2) (pa_cons pe_int pa_nil))))) po_none (po_some pe_int)) (pe_lst (pa_cons (pe_tup (pa_cons (pe_ix (ixL (K := K)) (pv 2) pe_int (fun _ _ => rfl)) (pa_cons pe_int (pa_cons (pe_tup (pa_cons pe_str (pa_cons pe_str pa_nil))) pa_nil)))) pa_nil)))) (pss_cons (ps_set (i := 5) nd rfl (Or.inl rfl) (pe_callO c__law_names (hr.mono (by first | decide | omega)) (pa_cons (pv 1) (pa_cons (pe_callO c__law_pick (hr.mono (by first | decide | omega)) (pa_cons (pv 1) (pa_cons (pe_lst (pa_cons pe_int (pa_cons pe_int (pa_cons pe_int (pa_cons pe_int (pa_cons pe_int (pa_cons pe_int (pa_cons pe_int (pa_cons pe_int pa_nil))))))))) pa_nil))) pa_nil)))) (pss_cons (ps_par (i := 6) (j := 7) rfl nd rfl rfl (by decide) rfl rfl (pa_cons (pe_callO c__law_made_forum (hr.mono (by first | decide | omega)) (pa_cons (pv 3) pa_nil)) (pa_cons (pe_callO c__law_net (hr.mono (by first | decide | omega)) (pa_cons (pv 5) pa_nil)) pa_nil)) (by rfl)) (pss_cons (ps_set (i := 8) nd rfl (Or.inl rfl) (pe_makeO c_Places (hr.mono (by first | decide | omega)) (pa_cons (pv 6) (pa_cons (pv 5) pa_nil)))) (pss_cons (ps_for PassesOwn.never rfl (pi_list (pe_callO c__law_net_story (hr.mono (by first | decide | omega)) (pa_cons (pv 1) (pa_cons (pv 5) (pa_cons (pv 4) (pa_cons (pe_op op_add pe_int (pe_callO c__law_draw (hr.mono (by first | decide | omega)) (pa_cons (pv 1) (pa_cons pe_int pa_nil)))) pa_nil)))))) (pg_name (i := 9) nd rfl (Or.inl rfl)) (pss_cons (ps_expr (pe_callO c__law_net_do (hr.mono (by first | decide | omega)) (pa_cons (pv 8) (pa_cons (pv 9) pa_nil)))) (pss_cons (ps_expr (pe_callO c__law_net_deed (hr.mono (by first | decide | omega)) (pa_cons (pv 7) (pa_cons (pv 9) pa_nil)))) (pss_one (ps_if (PW.pt (pw_and (pt_cmpR op_eq (pe_callO c__law_draw (hr.mono (by first | decide | omega)) (pa_cons (pv 1) (pa_cons pe_int pa_nil))) pe_int (nomark _)) (pw_and1 (pt_not (pt_val (pe_callO c__law_net_sure_right (hr.mono (by first | decide | omega)) (pa_cons (pv 8) (pa_cons (pv 6) (pa_cons (pv 7) (pa_cons (pe_callO c__law_pick (hr.mono (by first | decide | omega)) (pa_cons (pv 1) (pa_cons (pv 5) pa_nil))) pa_nil)))))))))) (pss_one (ps_ret pe_bl)) pss_nil))))) (pss_cons (ps_for PassesOwn.never rfl (pi_list (pv 5)) (pg_name (i := 10) nd rfl (Or.inl rfl)) (pss_cut (ps_if (pt_not (pt_val (pe_callO c__law_net_sure_right (hr.mono (by first | decide | omega)) (pa_cons (pv 8) (pa_cons (pv 6) (pa_cons (pv 7) (pa_cons (pv 10) pa_nil))))))) (pss_one (ps_ret pe_bl)) pss_nil) (pss_one (ps_for PassesOwn.never rfl (pi_list (pv 5)) (pg_name (i := 11) nd rfl (Or.inl rfl)) (pss_one (ps_if (pt_not (pt_val (pe_methO c_State_is_part_of (hr.mono (by first | decide | omega)) (pe_methO c_Places_known (hr.mono (by first | decide | omega)) (pv 8) (pa_cons (pv 10) (pa_cons (pv 11) pa_nil))) (pa_cons (pe_methO c_Places_state (hr.mono (by first | decide | omega)) (pv 8) (pa_cons (pv 11) pa_nil)) pa_nil)))) (pss_one (ps_ret pe_bl)) pss_nil)))))) (pss_one (ps_ret (pe_cmpR (op_eqO c_State_eq (hr.mono (by first | decide | omega))) (pe_methO c_Places_known (hr.mono (by first | decide | omega)) (pv 8) (pa_cons (pe_ix (ixL (K := K)) (pv 5) pe_int (fun _ _ => rfl)) (pa_cons (pe_ix (ixL (K := K)) (pv 5) pe_int (fun _ _ => rfl)) pa_nil))) (pe_methO c_Places_state (hr.mono (by first | decide | omega)) (pv 8) (pa_cons (pe_ix (ixL (K := K)) (pv 5) pe_int (fun _ _ => rfl)) pa_nil)) (nomark _)))))))))))), ?_⟩
    obtain ⟨l, ns, rfl, el, l63, t3, q⟩ := h
    have z1001 : (1001 : Nat) < sizeLine := by decide
    have z2 : 2 ≤ sizeLine := by decide
    have z3 : 3 ≤ sizeLine := by decide
    refine ⟨_, rfl, _, rfl, l, ns, rfl, el, by omega, fun H1 a s1 pa1 ap ac => ?_⟩
    have t31 := tab3_same s1 t3
    refine ⟨_, rfl, _, _, _, _, rfl, a, 0, 3, 5, 5, rfl, pa1, by omega, rfl, rfl, rfl, by omega, by omega, by omega, by omega, fun H2 n2 r ln R ll names d rs b2 pa2 hn2 er wat wok hR => ?_⟩
    have t32 := tab3_pen pa1 b2 t31
    refine ⟨r, _, rfl, SqT.of er, rfl, _, _, rfl, _, _, rfl, _, _, rfl, rfl, ?_⟩
    have l3n := wok.l3
    have l10n := wok.l10
    have lrs := wok.l
    have Rp : R ≠ a.p := fun z => pa1.p_occ (by rw [← z]; exact hR)
    obtain ⟨xs0, ex0, tv0⟩ := wat.l
    have lx0 : xs0.length = rs.length := by rw [← tv0.length, List.length_map]
    refine ⟨_, rfl, _, rfl, _, rfl, _, _, _, rfl, a, n2, ln, names, 3, rfl, pa2, by omega, rfl, wat.n, wok.n, by omega, by omega, rfl, by omega, fun H3 n3 m3 rs3 b3 pa3 hn3 hm3 lr3 hok3 hlen3 => ?_⟩
    obtain ⟨xs3, ex3, tv3⟩ := lr3
    have lx3 : xs3.length = rs3.length := by rw [← tv3.length, List.length_map]
    refine ⟨ll, m3, _, _, rfl, rfl, pa2.lst b3 ex0, ex3, by omega, fun p1 hp1 => ?_⟩
    have q1 := same_new (o := .lst (xs0 ++ xs3)) hp1
    refine ⟨_, rfl, p1, _, rfl, SqL.of upd_same, fun p2 hp2 => ?_⟩
    rw [show (10 : Int) = ((10 : Nat) : Int) by rfl, cutV_lo]
    have q2 := same_new (o := .lst ((xs0 ++ xs3).take 10)) hp2
    have l1 : ((xs0 ++ xs3).take 10).length ≤ 10 := by rw [List.length_take]; omega
    have qA := q1.trans q2
    have eln := qA _ _ (pa2.lst b3 wat.n)
    obtain ⟨z0, zr, hz0⟩ : ∃ z0 zr, names = z0 :: zr := by
      cases e : names with
      | nil => rw [e] at l3n; simp at l3n
      | cons z0 zr => exact ⟨z0, zr, rfl⟩
    have hz0m : z0 ∈ names := by rw [hz0]; exact List.mem_cons_self
    have g0 : (names.map V.str)[0]? = some (.str z0) := by rw [hz0]; rfl
    refine ⟨_, rfl, ln, _, _, _, rfl, rfl, SqL.of eln, atI_nat (j := 0) g0, z2, fun t4 ht4 => ⟨z3, fun t5 ht5 => ⟨by show 1 ≤ sizeLine; decide, fun p6 hp6 => ?_⟩⟩⟩
    have q4 := same_new (o := .tup [.str "take", .str "p9"]) ht4
    have q5 := same_new (o := .tup [.str z0, .int 1, .ref t4]) ht5
    have q6 := same_new (o := .lst [.ref t5]) hp6
    have qB := (q4.trans q5).trans q6
    refine ⟨p2, p6, _, _, rfl, rfl, qB _ _ upd_same, upd_same, by simp only [List.length_cons, List.length_nil]; omega, fun p7 hp7 => ?_⟩
    have q7 := same_new (o := .lst ((xs0 ++ xs3).take 10 ++ [.ref t5])) hp7
    have qC := qA.trans (qB.trans q7)
    have k37 : Tk H2 _ := (pa2.tk b3).trans (tk_same qC)
    generalize hUL : ((rs ++ rs3).take 10 ++ [(z0, (1 : Int), Say.take "p9")] : List LR) = UL
    have lU : LstAt (upd (upd (upd (upd (upd (upd H3 p1 (.lst (xs0 ++ xs3))) p2 (.lst ((xs0 ++ xs3).take 10))) t4 (.tup [.str "take", .str "p9"])) t5 (.tup [.str z0, .int 1, .ref t4])) p6 (.lst [.ref t5])) p7 (.lst ((xs0 ++ xs3).take 10 ++ [.ref t5]))) p7 lrDt UL := by
      refine ⟨_, upd_same, ?_⟩
      rw [← hUL]
      simp only [List.map_append, List.map_take, List.map_cons, List.map_nil]
      refine (((tv0.keep k37).app (tv3.keep (tk_same qC))).take 10).app (TvAll.one ⟨t5, [.str z0, .int 1, .ref t4], rfl, q7 _ _ (q6 _ _ upd_same), rfl, rfl, ⟨t4, [.str "take", .str "p9"], rfl, q7 _ _ (q6 _ _ (q5 _ _ upd_same)), rfl, rfl, trivial⟩, trivial⟩)
    have hUok : ULok names UL := by
      refine ⟨wok.n, fun x hx => ?_⟩
      rw [← hUL] at hx
      rcases List.mem_append.mp hx with hx | hx
      · rcases List.mem_append.mp (List.mem_of_mem_take hx) with hx | hx
        · exact wok.r x hx
        · exact hok3 x hx
      · obtain rfl := List.mem_singleton.mp hx
        exact ⟨hz0m, by show (1 : Int) ≤ 1; omega, by show (1 : Int) ≤ 10 ^ 24; decide, more_names.2.2.1, fun y hy => by cases hy⟩
    have lUL : 1 ≤ UL.length ∧ UL.length ≤ 1000 := by
      rw [← hUL]
      simp only [List.length_append, List.length_take, List.length_cons, List.length_nil]
      omega
    have pa4 := pa3.same qC
    have wn4 := qC _ _ (pa2.lst b3 wat.n)
    have wr4 := wat.r.but (b3.trans (but_same qC)) Rp k37
    have t34 := tab3_same qC (tab3_pen pa2 b3 t32)
    generalize upd (upd (upd (upd (upd (upd H3 p1 (.lst (xs0 ++ xs3))) p2 (.lst ((xs0 ++ xs3).take 10))) t4 (.tup [.str "take", .str "p9"])) t5 (.tup [.str z0, .int 1, .ref t4])) p6 (.lst [.ref t5])) p7 (.lst ((xs0 ++ xs3).take 10 ++ [.ref t5])) = H4 at lU pa4 wn4 wr4 t34 ⊢
    refine ⟨_, rfl, _, rfl, by decide, fun l5 hl5 => pick_ints (ns := [1, 2, 2, 3, 3, 3, 4, 8]) pa4 (by omega) hl5 (by decide) (by decide) fun H5 k5 b5 pa5 hk5 => ?_⟩
    have hk5 : 1 ≤ k5 ∧ k5 ≤ 8 := by simp at hk5; omega
    obtain ⟨k, rfl⟩ : ∃ k : Nat, k5 = (k : Int) := ⟨k5.toNat, by omega⟩
    refine ⟨_, _, rfl, a, n3 + 1, k, rfl, pa5, by omega, rfl, by omega, fun H6 n6 lsp spots b6 pa6 hn6 hlsp esp nsp lsn => ?_⟩
    have b46 := b5.trans b6
    have t36 := tab3_pen pa5 b6 (tab3_pen pa4 b5 t34)
    have wr6 := wr4.but b46 Rp (pa4.tk b46)
    have lU6 := (lU.pen pa4 b5).pen pa5 b6
    have psp : placesOk spots := ⟨nsp.1, by omega, by omega, nsp.ok⟩
    refine ⟨_, rfl, _, rfl, R, d, names, rfl, wr6, wok.d, wok.n, t36, fun H7 f bt ff lff fn => ?_⟩
    have sp7 := tab3_keep t36 bt esp (by intro _ z; cases z)
    have lU7 : LstAt H7 p7 lrDt UL := lU6.keep (tab3_tk t36 bt) fun xs e => tab3_keep t36 bt e (by intro _ z; cases z)
    have pa7 : PenAt H7 a n6 := by
      obtain ⟨e1, l1, at_, dd, ff, e2, rr⟩ := pa6
      exact ⟨tab3_keep t36 bt e1 (by intro _ z; cases z), l1, at_, dd, ff, tab3_keep t36 bt e2 (by intro _ z; cases z), rr⟩
    refine ⟨_, rfl, _, rfl, UL, lsp, spots, rfl, sp7, psp, lUL.2, fun H9 B s9 nsB okB nat9 fpB => ?_⟩
    have pa9 := pa7.same s9
    have f9 := ff.same s9
    have sp9 := s9 _ _ sp7
    have lU9 := lU7.same s9
    have bp9 : ¬ B.FP ⟨fun _ _ => [], [], 0⟩ a.p := fun z => pa7.p_occ (fpB _ z)
    refine ⟨_, _, rfl, _, rfl, _, rfl, fun x dx hx hdx hne => ?_⟩
    have s13 := same_two (o := .own x) (C := He.ga K "Places") hx hdx
    refine ⟨_, _, _, rfl, UL.map lrText, names, x, dx, f, lsp, spots, rfl, upd_same, rfl, f9.same s13, by omega, rfl, .inl (s13 _ _ sp9), psp, by rw [List.length_map]; exact lUL.2, by omega, fn, fun H14 A bA hAp hAns hAf okA plA fpA => ⟨rfl, ?_⟩⟩
    have s14 : Same H9 H14 := same_made hx hdx bA
    subst hAp hAns hAf
    have freshA : ∀ b, A.FP ⟨fun _ _ => [], [], 0⟩ b → H9 b = none := fun b hb => by
      rcases fpA b hb with q | q
      · rw [q]; exact hx
      · exact same_free s13 q
    have st : LawSt P w K (UL.map lrText) names names UL H14 a n6 A ⟨fun _ _ => [], [], 0⟩ B ⟨fun _ _ => [], [], 0⟩ lsp :=
      ⟨⟨okA, plA, okB, nat9.same s14, nsB, rel_start, hUok, rfl, fun z hz => hz, fun b hb hb2 => nat9.occ hb2 (freshA b hb)⟩, pa9.same s14, fun z => pa9.p_occ (freshA _ z), bp9, s14 _ _ sp9⟩
    have lU14 := lU9.same s14
    obtain ⟨dp, oA⟩ := plA.op
    have spa := st.pa
    refine ⟨_, rfl, _, rfl, _, rfl, _, rfl, _, _, rfl, _, _, _, rfl, spa, by omega, rfl, by omega, by omega, fun H21 k21 b21 pa21 k210 k211 => ⟨_, _, rfl, rfl, ?_⟩⟩
    have st21 := st.pen b21 pa21
    have lU21 := lU14.pen spa b21
    refine ⟨_, _, _, _, rfl, UL, a, n6 + 1, lsp, p7, A.ns, (10 + k21).toNat, rfl, pa21, by omega, rfl, st21.el, by omega, by omega, rfl, lU21, lUL.1, lUL.2, congrArg V.int (by omega), by omega, fun H22 n22 r22 ds b22 pa22 hn22 hr22 lds so22 hds => ?_⟩
    have st22 := st21.pen b22 pa22
    obtain ⟨xds, exds, tvds⟩ := lds
    have lxds : xds.length = ds.length := by rw [← tvds.length, List.length_map]
    refine ⟨r22, rfl, ⟨_, SqL.of exds⟩, for_it walk_list (fun i σ H' => ∃ (v9 v10 v11 : Option V) (mp : PlM) (mn : NetM) (n' : Nat), σ = [some (.ref l), some (.ref a.p), some (.ref ln), some (.ref R), some (.ref p7), some (.ref lsp), some (.ref A.f.x), some (.ref B.p), some (.ref A.p), v9, v10, v11] ∧ LawSt P w K (UL.map lrText) names names UL H' a n' A mp B mn lsp ∧ n' ≤ n22 + 2 * i ∧ Tk H22 H' ∧ H' r22 = some (.lst xds) ∧ SwIs (runSW (ds.take i)) mp ∧ TruthP A.ns mp)
      ⟨_, _, _, _, _, n22, rfl, st22, by omega, Tk.refl, exds, ⟨rfl, rfl⟩, truth_start⟩ (fun i σ H' _ ⟨_, _, _, _, _, _, _, _, _, _, e, _⟩ => SqL.of e) ?_ ?_⟩
    · rintro i x σ H2 H3 hi ⟨v9, v10, v11, mp, mn, n', rfl, st, hn', k2, er2, sw, tr⟩ ⟨rfl, hx⟩
      obtain ⟨d, hd, td⟩ := TvAll.mapGet (tvds.keep k2) hx
      obtain ⟨okP, okN⟩ := okd_of (so22 i d hd) sw st.bo.rel
      have okNB : mn.okD B.ns UL d := by rw [nsB]; exact okN
      have sent1000 : mp.sent ≤ 1000 := by
        rw [sw.1]
        have := sent_le (ds.take i)
        rw [List.length_take] at this
        omega
      refine ⟨_, rfl, _, rfl, _, _, rfl, _, _, A, mp, d, names, UL, rfl, st.bo.pk, st.bo.pa, td, st.bo.ul, st.bo.u, st.bo.nks, okP, sent1000, fun H4 mp' b4 p4 sp4 f4 => ?_⟩
      obtain ⟨na4, stepL⟩ := st.step okNB b4 p4 sp4 f4
      refine ⟨_, rfl, _, rfl, _, _, rfl, UL, B, mn, d, rfl, st.bo.nk, na4, td.keep (st.bo.pa.tk b4), okNB, by rw [← st.bo.rel.sent]; exact sent1000, fun H5 mn' b5 n5 sn5 f5 => ?_⟩
      obtain ⟨st5, k5, ls5⟩ := stepL b5 n5 sn5 f5
      have er5 := ls5 _ _ er2
      have sw5 : SwIs (runSW (ds.take (i + 1))) mp' := by
        rw [take_snoc hd, runSW_snoc]
        exact sw_step sw sp4
      have tr5 : TruthP A.ns mp' := truth_step tr okP sp4
      have spa5 := st5.pa
      refine ⟨_, rfl, _, _, rfl, _, _, _, rfl, spa5, by omega, rfl, by omega, by omega, fun H6 k6 b6 pa6 k60 k61 => ⟨rfl, _, rfl, ?_⟩⟩
      have st6 := st5.pen b6 pa6
      have er6 := spa5.lst b6 er5
      have k6 := (k2.trans k5).trans (spa5.tk b6)
      refine iteB (fun hb => ?_) (fun hb => iteF ?_)
      · refine ⟨_, rfl, _, rfl, _, rfl, _, rfl, _, rfl, pick_strs pa6 (by omega) st6.el (by omega) (by omega) fun H7 z b7 pa7 hz => ?_⟩
        have st7 := st6.pen b7 pa7
        refine ⟨_, _, _, _, rfl, UL.map lrText, names, names, UL, A, mp', B, mn', z, rfl, rfl, rfl, rfl, st7.bo, hz, fun H8 s8 => ⟨_, rfl, iteF ?_⟩⟩
        exact ⟨_, _, _, mp', mn', n' + 1 + 1, rfl, st7.same s8, by omega, (k6.trans (pa6.tk b7)).trans (tk_same s8), s8 _ _ (pa6.lst b7 er6), sw5, tr5⟩
      · exact ⟨_, _, _, mp', mn', n' + 1, rfl, st6, by omega, k6, er6, sw5, tr5⟩
    · rintro σ H2 ⟨v9, v10, v11, mp, mn, n', rfl, st, hn', k2, er2, sw, tr⟩
      clear st22 st21
      obtain ⟨dp2, o2⟩ := st.bo.pa.op
      have hu := st.bo.pk.u
      refine ⟨_, rfl, lsp, rfl, ⟨_, SqL.of st.el⟩, for_it walk_list (fun i σ H' => ∃ (v10 v11 : Option V), σ = [some (.ref l), some (.ref a.p), some (.ref ln), some (.ref R), some (.ref p7), some (.ref lsp), some (.ref A.f.x), some (.ref B.p), some (.ref A.p), v9, v10, v11] ∧ Same H2 H')
        ⟨_, _, rfl, fun _ _ e => e⟩ (fun i σ H' _ ⟨_, _, _, s⟩ => SqL.of (s _ _ st.el)) ?_ ?_⟩
      · rintro i x σ H3 H4 hi ⟨v10', v11', rfl, s3⟩ ⟨rfl, hx⟩
        obtain ⟨z, hz, rfl⟩ := getMap hx
        have hzm := List.mem_of_getElem? hz
        have st3 := st.same s3
        refine ⟨fun σ H' => σ = [some (.ref l), some (.ref a.p), some (.ref ln), some (.ref R), some (.ref p7), some (.ref lsp), some (.ref A.f.x), some (.ref B.p), some (.ref A.p), v9, some (.str z), v11'] ∧ Same H2 H', ?_, ?_⟩
        · exact ⟨_, rfl, _, rfl, _, rfl, _, rfl, _, _, _, _, rfl, UL.map lrText, names, names, UL, A, mp, B, mn, z, rfl, rfl, rfl, rfl, st3.bo, hzm, fun H7 s7 => ⟨_, rfl, iteF ⟨rfl, s3.trans s7⟩⟩⟩
        rintro σ H5 ⟨rfl, s5⟩
        refine ⟨_, rfl, lsp, rfl, ⟨_, SqL.of (s5 _ _ st.el)⟩, for_it walk_list (fun j σ H' => ∃ (v11 : Option V), σ = [some (.ref l), some (.ref a.p), some (.ref ln), some (.ref R), some (.ref p7), some (.ref lsp), some (.ref A.f.x), some (.ref B.p), some (.ref A.p), v9, some (.str z), v11] ∧ Same H2 H')
          ⟨_, rfl, s5⟩ (fun i σ H' _ ⟨_, _, s⟩ => SqL.of (s _ _ st.el)) ?_ ?_⟩
        · rintro j y σ H6 H7 hj ⟨v11'', rfl, s6⟩ ⟨rfl, hy⟩
          obtain ⟨z2, hz2, rfl⟩ := getMap hy
          have hzm2 := List.mem_of_getElem? hz2
          have bo6 := (st.same s6).bo
          refine ⟨_, rfl, A.p, dp2, _, rfl, s6 _ _ o2, places_no3.1, _, rfl, _, rfl, _, _, _, rfl, UL.map lrText, names, A, mp, z, z2, rfl, bo6.pk, bo6.pa, rfl, hzm, rfl, hzm2, fun H8 y1 s8 st1 => ?_⟩
          have s68 := s6.trans s8
          have bo8 := (st.same s68).bo
          obtain ⟨dx1, D1, t1, sp1, cn1, ac1, vo1, ba1, o1, eD1, et1⟩ := id st1
          refine ⟨y1, dx1, _, rfl, o1, state_no, _, rfl, A.p, dp2, _, rfl, s68 _ _ o2, places_no.2.2.2.1, _, rfl, stateT_of bo8.pk bo8.pa hzm2 fun H9 y2 s9 st2 => ?_⟩
          have bo9 := (st.same (s68.trans s9)).bo
          have gM := bo9.pa.good z hzm z2 hzm2
          have pm := texF_perm (mp.M z z2)
          have pm2 := texF_perm (mp.M z2 z2)
          have lM := gM.len
          have lp := pm.length_eq
          refine ⟨_, _, rfl, y1, y2, A.f, texF (mp.M z z2), texF (mp.M z2 z2), rfl, st1.same s9, rfl, st2, bo9.pa.fo, fun e he => (gM.1 e (pm.mem_iff.mp he)).1, by omega, fun e he => ?_, fun H10 s10 => ⟨_, rfl, iteF ⟨_, rfl, (s68.trans s9).trans s10⟩⟩⟩
          exact (pm2.map LRow.text).mem_iff.mpr (tr.1 z hzm z2 hzm2 _ (List.mem_map_of_mem (pm.mem_iff.mp he)))
        · rintro σ H6 ⟨v11'', rfl, s6⟩
          exact ⟨_, _, rfl, s6⟩
      · rintro σ H3 ⟨v10', v11', rfl, s3⟩
        obtain ⟨w0, wr, hw0⟩ : ∃ w0 wr, A.ns = w0 :: wr := by
          cases e : A.ns with
          | nil => rw [e] at lsn; simp at lsn; omega
          | cons w0 wr => exact ⟨w0, wr, rfl⟩
        have gw : (A.ns.map V.str)[0]? = some (.str w0) := by rw [hw0]; rfl
        have hw : w0 ∈ A.ns := by rw [hw0]; exact List.mem_cons_self
        have bo3 := (st.same s3).bo
        have el3 := s3 _ _ st.el
        refine ⟨_, rfl, A.p, dp2, _, rfl, s3 _ _ o2, places_no3.1, _, rfl, lsp, _, _, _, rfl, rfl, SqL.of el3, atI_nat (j := 0) gw, _, rfl, lsp, _, _, _, rfl, rfl, SqL.of el3, atI_nat (j := 0) gw, _, _, _, rfl, UL.map lrText, names, A, mp, w0, w0, rfl, bo3.pk, bo3.pa, rfl, hw, rfl, hw, fun H4 y1 s4 st1 => ?_⟩
        have s34 := s3.trans s4
        have bo4 := (st.same s34).bo
        refine ⟨_, rfl, A.p, dp2, _, rfl, s34 _ _ o2, places_no.2.2.2.1, _, rfl, lsp, _, _, _, rfl, rfl, SqL.of (s34 _ _ st.el), atI_nat (j := 0) gw, stateT_of bo4.pk bo4.pa hw fun H5 y2 s5 st2 => ?_⟩
        have bo5 := (st.same (s34.trans s5)).bo
        obtain ⟨dx1, D1, t1, sp1, cn1, ac1, vo1, ba1, o1, eD1, et1⟩ := id (st1.same s5)
        obtain ⟨dx2, D2, t2, sp2, cn2, ac2, vo2, ba2, o2', eD2, et2⟩ := id st2
        exact ⟨⟨y1, y2, _, _, _, _, rfl, rfl, o1, o2', A.f, texF (mp.M w0 w0), bo5.pa.fo, st1.same s5, st2⟩, fun H' _ => q H'⟩
end
end Lv
set_option maxHeartbeats 4000000
namespace Lv
open PySem PySem.Spec PyProof.Rows L2
theorem tab_start {H : Hp} {p : Addr} {q : Str} (h : H p = some (.tbl #[])) : LamX.TabS H p q := by
  refine ⟨#[], h, ?_, fun pos cv z => ?_⟩
  · first
      | trivial
      | decide
      | exact fun z hz => by cases hz
  · cases z
theorem lawAt {w : World} {K : PySem.W.Frag} {mg : Str → Option Value} {fa0 : Addr} {h : Heap} (X : K.In h) (G : h.Ns mainGlobals mg) (hmg : mg ("law" : Str) = some (.ref fa0)) (c : He.SaysX fa fn [] tf ex w h K) : LamX.LawAtS PySem.Challenge.rw_lentvoices_k82_whole_known w K CX0 18 63 "script" mg fa0 h := by
  have T : Txt K mg := ⟨c.t.d, ⟨h, X, G⟩, c.more⟩
  obtain ⟨fd, F⟩ := T.d.def_ 91 (d := d_law) rfl
  have F' : FunD K "law" "law" (defArgs s_law) (defBody s_law) (defScope s_law) [] [] (He.ga K "law") fd := F
  have e := hmg.symm.trans T.g_law
  cases e
  have b := FunD.bindsA (ps := ["script"]) F' fun _ _ _ _ _ _ us hl => match us, hl with | [_], _ => rfl
  refine ⟨fd, tf.map (He.cT K), sp_law K, ?_, ?_, ?_, fun s v => b s [v] rfl, ?_, ?_⟩
  · intro p hp
    obtain ⟨t, ht, rfl⟩ := List.mem_map.mp hp
    exact c.empty t ht
  · intro p hp
    obtain ⟨t, ht, rfl⟩ := List.mem_map.mp hp
    exact c.out t ht
  · intro p hp
    obtain ⟨t, ht, rfl⟩ := List.mem_map.mp hp
    exact PySem.W.codeHd_of_K X (c.hd t ht)
  · intro H a ns hl _ hT hS
    have key : ∀ t ∈ tf, H (He.cT K t).2 = some (.tbl #[]) := fun t ht => hT _ (List.mem_map_of_mem ht)
    exact ⟨_, rfl, a, ns, rfl, hS, hl, ⟨tab_start (key ("are_founders", none) (by simp [tf])), tab_start (key ("are_rules", none) (by simp [tf])), tab_start (key ("are_threads", none) (by simp [tf]))⟩, fun _ => rfl⟩
  · intro base hb G2 hT
    exact ok_law ⟨T.d, ⟨base, hb, G2⟩, T.ex⟩ (fun t ht => hT _ (List.mem_map_of_mem ht)) F'
end Lv
open PySem PySem.W PySem.Calls PyProof.Rows
theorem PySem.Challenge.cw_lentvoices_k82_whole_known_holds : PySem.Challenge.rw_lentvoices_k82_whole_known.Holds := by
  w_on; o_law
  refine HandSHeadRun.head_any (r := OpenLaw.row PySem.Challenge.rw_lentvoices_k82_whole_known) (q := Lv.qv) (H := Lv.hk) (ob := Lv.ob) (M := 9000) (loose := Lv.nms) (d := HandSHeadRun.topDef (OpenLaw.row PySem.Challenge.rw_lentvoices_k82_whole_known).prog 99) (kwd := []) Lv.ob_eq
    (by kernel_rfl) (fun s => by kernel_rfl) Lv.run (by kernel_rfl) (by kernel_rfl) (by kernel_rfl) (by rfl) (by first | assumption | decide +kernel) (by decide +kernel) ⟨rfl, rfl, rfl, rfl, rfl, by decide +kernel⟩ ?hw ?hc
  case hw => w_witness2
  case hc =>
    refine LamX.walk_ofTsE (l := PySem.Challenge.rw_lentvoices_k82_whole_known) (n := 63) (k := 18) (x := "script") (CX := fun _ => L2.CX0) rfl (by decide) (by kernel_rfl) ⟨rfl, by decide, by decide⟩ ?F (fun _ _ _ _ _ z => z)
    intro w mg fa h Y G hmg0
    obtain ⟨K, KX, c⟩ := Y
    have hmg : mg ("law" : PySem.Str) = some (.ref fa) := by
      have e : (HandSHeadRun.topDef (OpenLaw.row PySem.Challenge.rw_lentvoices_k82_whole_known).prog 99).name = ("law" : PySem.Str) := by kernel_rfl
      rw [← e]
      exact hmg0
    exact ⟨K, KX, Lv.lawAt KX G hmg c⟩
