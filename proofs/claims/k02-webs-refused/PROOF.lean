import PyProof.Rows.All
import PySem.Str
import Wide.All
import OpenK.AllK
import Wide.FinOn
import HandS.ForMost
import HandS.Wide
import HandS.Flow
import HandS.Exc
import HandS.TryOnly
import HandS.TryMany
import HandS.ExcOwn
import HandS.IsInst
import HandS.Small
import HandS.Codes
import HandS.ExcIs
import HandS.Style
import HandS.Deep
import HandS.TupAny
import HandS.Sort
import HandS.SortRule
import HandS.SortInts
import HandS.Conv
import HandS.More
import HandS.TupLen
import HandS.WordsDict
import HandS.DictTup
import KE.GoesNew
import KE.GoesMore
import HandS.Zip
import HandS.DictComp
import HandS.WordsExc
import PySem.Challenge.RW_beatless_k02_webs_refused
set_option Elab.async false
set_option linter.all false
namespace L3
inductive Nm where
  | «AT_END» | «AT_SEND» | «AT_START» | «BeatlessError» | «CLEAR» | «Clock» | «Expr» | «FIGURES»
  | «Fallen» | «HEADS» | «Hall» | «KINDS» | «KNOWS» | «LONGEST» | «Less» | «MOST_DEEP»
  | «MOST_FIGURES» | «MOST_HANDS» | «MOST_HANDS_ways» | «MOST_HANDS_webs» | «MOST_NUMBER» | «MOST_REST» | «MOST_ROUNDS» | «MOST_WORDS»
  | «Mod» | «NAMES» | «Name» | «NoDeed» | «NoHand» | «NoLetter» | «NoLine» | «NoProgram»
  | «NoRound» | «NoText» | «NoWay» | «NoWeb» | «NoWorld» | «Num» | «OVER» | «Program»
  | «SEVERAL» | «Seat» | «TOLD» | «TOO_GREAT» | «Two» | «ValueError» | «WORDS» | «WORDS_exprs»
  | «WORDS_seats» | «Way» | «Web» | «__init__» | «__name__» | «_law_alike» | «_law_all_felled» | «_law_all_refused»
  | «_law_any_way» | «_law_asked» | «_law_bad» | «_law_begun» | «_law_behind» | «_law_beside» | «_law_both» | «_law_carried»
  | «_law_carries» | «_law_carry» | «_law_cell_at» | «_law_changed» | «_law_classes» | «_law_copied» | «_law_counted» | «_law_cut»
  | «_law_cut_off» | «_law_deed» | «_law_deep» | «_law_digit» | «_law_does» | «_law_done» | «_law_downs» | «_law_draw»
  | «_law_drawn_way» | «_law_draws» | «_law_due» | «_law_end» | «_law_expr» | «_law_fall» | «_law_fallen» | «_law_falls»
  | «_law_far» | «_law_felled» | «_law_fields» | «_law_first_wrong» | «_law_fits» | «_law_forged» | «_law_form» | «_law_found»
  | «_law_four» | «_law_goes» | «_law_good» | «_law_halls_alike» | «_law_hands» | «_law_heard» | «_law_heard_names» | «_law_is»
  | «_law_is_line» | «_law_is_list» | «_law_is_plain» | «_law_is_whole» | «_law_kept_back» | «_law_kids» | «_law_kinds» | «_law_lates»
  | «_law_leader» | «_law_leader_of» | «_law_leaf» | «_law_least» | «_law_lets» | «_law_lines» | «_law_long» | «_law_look»
  | «_law_lost» | «_law_made» | «_law_made_hall» | «_law_mend» | «_law_mended» | «_law_mended_alike» | «_law_mended_at_the_end» | «_law_moved»
  | «_law_near» | «_law_next» | «_law_no_round» | «_law_no_way» | «_law_no_ways» | «_law_none» | «_law_number» | «_law_objects»
  | «_law_odd» | «_law_of_hand» | «_law_other_bridges» | «_law_other_parents» | «_law_other_world» | «_law_otherwise» | «_law_pairs» | «_law_paper»
  | «_law_parsed» | «_law_part» | «_law_pieces» | «_law_place» | «_law_plain» | «_law_plain_alike» | «_law_program» | «_law_program_made»
  | «_law_program_rows» | «_law_reached» | «_law_refused» | «_law_refused_by» | «_law_renewed» | «_law_right» | «_law_roads» | «_law_rounds»
  | «_law_row» | «_law_rows» | «_law_run» | «_law_same» | «_law_seat» | «_law_setting» | «_law_signed» | «_law_size»
  | «_law_smaller» | «_law_so_far» | «_law_some» | «_law_spoiled» | «_law_stand» | «_law_stands» | «_law_state» | «_law_steps»
  | «_law_stretch» | «_law_take» | «_law_takes» | «_law_thing» | «_law_times_alike» | «_law_told» | «_law_tried» | «_law_turns»
  | «_law_two_webs» | «_law_up» | «_law_ups» | «_law_value» | «_law_way» | «_law_way_rows» | «_law_web» | «_law_web_drawn»
  | «_law_web_rows» | «_law_web_with» | «_law_well» | «_law_whole» | «_law_wide» | «_law_within» | «_law_word» | «_law_word_of»
  | «_law_words» | «_law_world» | «_law_worlds» | «_law_worths» | «_wall» | «air» | «all_bridges» | «all_parents»
  | «all_roads» | «append» | «are_hands» | «are_lines» | «at» | «begin» | «begin_all» | «begin_round»
  | «besides» | «bridges» | «bridges_at» | «bridges_between» | «bridges_fit» | «by_clusters» | «by_neighbours» | «by_tree»
  | «can_move» | «carry» | «carry_all» | «check_way» | «children» | «clear» | «clear_road» | «clears»
  | «clusters_joined» | «come_in» | «comes_to_leaders» | «count» | «counts» | «counts_of» | «cut» | «depth»
  | «depth_of» | «do_deed» | «done» | «down» | «down_to» | «earliest» | «end_round» | «ended»
  | «ends» | «expr_of» | «extend» | «fall» | «first» | «first_worth» | «first_worths» | «fourth»
  | «get» | «go_back» | «go_on» | «groups» | «hall_at» | «hand» | «hands» | «has_hand»
  | «has_line» | «has_turn» | «heard» | «heard_by_pieces» | «heard_in» | «holds» | «index» | «inner»
  | «insert» | «is_closed» | «is_count» | «is_count_seats» | «is_count_settings» | «is_deed» | «is_good» | «is_letter»
  | «is_line» | «is_line_ways» | «is_line_webs» | «is_number» | «is_of_kind» | «is_pair» | «is_road» | «is_whole»
  | «is_whole_roads» | «is_whole_webs» | «is_whole_worlds» | «is_world» | «items» | «join» | «joined_to» | «kept»
  | «key_of» | «lacking» | «laid» | «last_worth» | «lateness» | «lates» | «latest» | «law»
  | «lay» | «leader» | «leads_on» | «learn» | «least_ended» | «lets» | «letter» | «letters»
  | «lines» | «lying» | «made_of» | «many» | «marks» | «may_stand» | «mend» | «move»
  | «move_on» | «neighbours» | «next_worth» | «note» | «number» | «number_of» | «one» | «other»
  | «own_hands» | «own_lines» | «pair_rows» | «pairs_of» | «parent_by» | «parent_of» | «parents» | «parents_fit»
  | «parts» | «pieces» | «pieces_up_to» | «plain_heard» | «plain_worths» | «pop» | «post» | «program»
  | «program_text» | «put_to» | «read_program» | «read_setting» | «reckon» | «remove» | «renew» | «replay»
  | «rest» | «reverse» | «road» | «roads» | «room_left» | «rounds» | «row» | «rows_known»
  | «run_of» | «said» | «seat_of» | «seats» | «send» | «sent» | «setdefault» | «setting_text»
  | «shown» | «sides» | «split» | «stage» | «stands_right» | «start» | «startswith» | «steps_from»
  | «take» | «takes» | «third» | «throughs» | «told» | «up_from» | «update» | «upper»
  | «value» | «values» | «way» | «way_now» | «web» | «web_now» | «when» | «word»
  | «word_to» | «words» | «worlds» | «worth» | «worths» | «worths_behind» | «worths_by_pieces»
  deriving DecidableEq
def Nm.s : Nm → PySem.Str
  | .«AT_END» => "AT_END"
  | .«AT_SEND» => "AT_SEND"
  | .«AT_START» => "AT_START"
  | .«BeatlessError» => "BeatlessError"
  | .«CLEAR» => "CLEAR"
  | .«Clock» => "Clock"
  | .«Expr» => "Expr"
  | .«FIGURES» => "FIGURES"
  | .«Fallen» => "Fallen"
  | .«HEADS» => "HEADS"
  | .«Hall» => "Hall"
  | .«KINDS» => "KINDS"
  | .«KNOWS» => "KNOWS"
  | .«LONGEST» => "LONGEST"
  | .«Less» => "Less"
  | .«MOST_DEEP» => "MOST_DEEP"
  | .«MOST_FIGURES» => "MOST_FIGURES"
  | .«MOST_HANDS» => "MOST_HANDS"
  | .«MOST_HANDS_ways» => "MOST_HANDS_ways"
  | .«MOST_HANDS_webs» => "MOST_HANDS_webs"
  | .«MOST_NUMBER» => "MOST_NUMBER"
  | .«MOST_REST» => "MOST_REST"
  | .«MOST_ROUNDS» => "MOST_ROUNDS"
  | .«MOST_WORDS» => "MOST_WORDS"
  | .«Mod» => "Mod"
  | .«NAMES» => "NAMES"
  | .«Name» => "Name"
  | .«NoDeed» => "NoDeed"
  | .«NoHand» => "NoHand"
  | .«NoLetter» => "NoLetter"
  | .«NoLine» => "NoLine"
  | .«NoProgram» => "NoProgram"
  | .«NoRound» => "NoRound"
  | .«NoText» => "NoText"
  | .«NoWay» => "NoWay"
  | .«NoWeb» => "NoWeb"
  | .«NoWorld» => "NoWorld"
  | .«Num» => "Num"
  | .«OVER» => "OVER"
  | .«Program» => "Program"
  | .«SEVERAL» => "SEVERAL"
  | .«Seat» => "Seat"
  | .«TOLD» => "TOLD"
  | .«TOO_GREAT» => "TOO_GREAT"
  | .«Two» => "Two"
  | .«ValueError» => "ValueError"
  | .«WORDS» => "WORDS"
  | .«WORDS_exprs» => "WORDS_exprs"
  | .«WORDS_seats» => "WORDS_seats"
  | .«Way» => "Way"
  | .«Web» => "Web"
  | .«__init__» => "__init__"
  | .«__name__» => "__name__"
  | .«_law_alike» => "_law_alike"
  | .«_law_all_felled» => "_law_all_felled"
  | .«_law_all_refused» => "_law_all_refused"
  | .«_law_any_way» => "_law_any_way"
  | .«_law_asked» => "_law_asked"
  | .«_law_bad» => "_law_bad"
  | .«_law_begun» => "_law_begun"
  | .«_law_behind» => "_law_behind"
  | .«_law_beside» => "_law_beside"
  | .«_law_both» => "_law_both"
  | .«_law_carried» => "_law_carried"
  | .«_law_carries» => "_law_carries"
  | .«_law_carry» => "_law_carry"
  | .«_law_cell_at» => "_law_cell_at"
  | .«_law_changed» => "_law_changed"
  | .«_law_classes» => "_law_classes"
  | .«_law_copied» => "_law_copied"
  | .«_law_counted» => "_law_counted"
  | .«_law_cut» => "_law_cut"
  | .«_law_cut_off» => "_law_cut_off"
  | .«_law_deed» => "_law_deed"
  | .«_law_deep» => "_law_deep"
  | .«_law_digit» => "_law_digit"
  | .«_law_does» => "_law_does"
  | .«_law_done» => "_law_done"
  | .«_law_downs» => "_law_downs"
  | .«_law_draw» => "_law_draw"
  | .«_law_drawn_way» => "_law_drawn_way"
  | .«_law_draws» => "_law_draws"
  | .«_law_due» => "_law_due"
  | .«_law_end» => "_law_end"
  | .«_law_expr» => "_law_expr"
  | .«_law_fall» => "_law_fall"
  | .«_law_fallen» => "_law_fallen"
  | .«_law_falls» => "_law_falls"
  | .«_law_far» => "_law_far"
  | .«_law_felled» => "_law_felled"
  | .«_law_fields» => "_law_fields"
  | .«_law_first_wrong» => "_law_first_wrong"
  | .«_law_fits» => "_law_fits"
  | .«_law_forged» => "_law_forged"
  | .«_law_form» => "_law_form"
  | .«_law_found» => "_law_found"
  | .«_law_four» => "_law_four"
  | .«_law_goes» => "_law_goes"
  | .«_law_good» => "_law_good"
  | .«_law_halls_alike» => "_law_halls_alike"
  | .«_law_hands» => "_law_hands"
  | .«_law_heard» => "_law_heard"
  | .«_law_heard_names» => "_law_heard_names"
  | .«_law_is» => "_law_is"
  | .«_law_is_line» => "_law_is_line"
  | .«_law_is_list» => "_law_is_list"
  | .«_law_is_plain» => "_law_is_plain"
  | .«_law_is_whole» => "_law_is_whole"
  | .«_law_kept_back» => "_law_kept_back"
  | .«_law_kids» => "_law_kids"
  | .«_law_kinds» => "_law_kinds"
  | .«_law_lates» => "_law_lates"
  | .«_law_leader» => "_law_leader"
  | .«_law_leader_of» => "_law_leader_of"
  | .«_law_leaf» => "_law_leaf"
  | .«_law_least» => "_law_least"
  | .«_law_lets» => "_law_lets"
  | .«_law_lines» => "_law_lines"
  | .«_law_long» => "_law_long"
  | .«_law_look» => "_law_look"
  | .«_law_lost» => "_law_lost"
  | .«_law_made» => "_law_made"
  | .«_law_made_hall» => "_law_made_hall"
  | .«_law_mend» => "_law_mend"
  | .«_law_mended» => "_law_mended"
  | .«_law_mended_alike» => "_law_mended_alike"
  | .«_law_mended_at_the_end» => "_law_mended_at_the_end"
  | .«_law_moved» => "_law_moved"
  | .«_law_near» => "_law_near"
  | .«_law_next» => "_law_next"
  | .«_law_no_round» => "_law_no_round"
  | .«_law_no_way» => "_law_no_way"
  | .«_law_no_ways» => "_law_no_ways"
  | .«_law_none» => "_law_none"
  | .«_law_number» => "_law_number"
  | .«_law_objects» => "_law_objects"
  | .«_law_odd» => "_law_odd"
  | .«_law_of_hand» => "_law_of_hand"
  | .«_law_other_bridges» => "_law_other_bridges"
  | .«_law_other_parents» => "_law_other_parents"
  | .«_law_other_world» => "_law_other_world"
  | .«_law_otherwise» => "_law_otherwise"
  | .«_law_pairs» => "_law_pairs"
  | .«_law_paper» => "_law_paper"
  | .«_law_parsed» => "_law_parsed"
  | .«_law_part» => "_law_part"
  | .«_law_pieces» => "_law_pieces"
  | .«_law_place» => "_law_place"
  | .«_law_plain» => "_law_plain"
  | .«_law_plain_alike» => "_law_plain_alike"
  | .«_law_program» => "_law_program"
  | .«_law_program_made» => "_law_program_made"
  | .«_law_program_rows» => "_law_program_rows"
  | .«_law_reached» => "_law_reached"
  | .«_law_refused» => "_law_refused"
  | .«_law_refused_by» => "_law_refused_by"
  | .«_law_renewed» => "_law_renewed"
  | .«_law_right» => "_law_right"
  | .«_law_roads» => "_law_roads"
  | .«_law_rounds» => "_law_rounds"
  | .«_law_row» => "_law_row"
  | .«_law_rows» => "_law_rows"
  | .«_law_run» => "_law_run"
  | .«_law_same» => "_law_same"
  | .«_law_seat» => "_law_seat"
  | .«_law_setting» => "_law_setting"
  | .«_law_signed» => "_law_signed"
  | .«_law_size» => "_law_size"
  | .«_law_smaller» => "_law_smaller"
  | .«_law_so_far» => "_law_so_far"
  | .«_law_some» => "_law_some"
  | .«_law_spoiled» => "_law_spoiled"
  | .«_law_stand» => "_law_stand"
  | .«_law_stands» => "_law_stands"
  | .«_law_state» => "_law_state"
  | .«_law_steps» => "_law_steps"
  | .«_law_stretch» => "_law_stretch"
  | .«_law_take» => "_law_take"
  | .«_law_takes» => "_law_takes"
  | .«_law_thing» => "_law_thing"
  | .«_law_times_alike» => "_law_times_alike"
  | .«_law_told» => "_law_told"
  | .«_law_tried» => "_law_tried"
  | .«_law_turns» => "_law_turns"
  | .«_law_two_webs» => "_law_two_webs"
  | .«_law_up» => "_law_up"
  | .«_law_ups» => "_law_ups"
  | .«_law_value» => "_law_value"
  | .«_law_way» => "_law_way"
  | .«_law_way_rows» => "_law_way_rows"
  | .«_law_web» => "_law_web"
  | .«_law_web_drawn» => "_law_web_drawn"
  | .«_law_web_rows» => "_law_web_rows"
  | .«_law_web_with» => "_law_web_with"
  | .«_law_well» => "_law_well"
  | .«_law_whole» => "_law_whole"
  | .«_law_wide» => "_law_wide"
  | .«_law_within» => "_law_within"
  | .«_law_word» => "_law_word"
  | .«_law_word_of» => "_law_word_of"
  | .«_law_words» => "_law_words"
  | .«_law_world» => "_law_world"
  | .«_law_worlds» => "_law_worlds"
  | .«_law_worths» => "_law_worths"
  | .«_wall» => "_wall"
  | .«air» => "air"
  | .«all_bridges» => "all_bridges"
  | .«all_parents» => "all_parents"
  | .«all_roads» => "all_roads"
  | .«append» => "append"
  | .«are_hands» => "are_hands"
  | .«are_lines» => "are_lines"
  | .«at» => "at"
  | .«begin» => "begin"
  | .«begin_all» => "begin_all"
  | .«begin_round» => "begin_round"
  | .«besides» => "besides"
  | .«bridges» => "bridges"
  | .«bridges_at» => "bridges_at"
  | .«bridges_between» => "bridges_between"
  | .«bridges_fit» => "bridges_fit"
  | .«by_clusters» => "by_clusters"
  | .«by_neighbours» => "by_neighbours"
  | .«by_tree» => "by_tree"
  | .«can_move» => "can_move"
  | .«carry» => "carry"
  | .«carry_all» => "carry_all"
  | .«check_way» => "check_way"
  | .«children» => "children"
  | .«clear» => "clear"
  | .«clear_road» => "clear_road"
  | .«clears» => "clears"
  | .«clusters_joined» => "clusters_joined"
  | .«come_in» => "come_in"
  | .«comes_to_leaders» => "comes_to_leaders"
  | .«count» => "count"
  | .«counts» => "counts"
  | .«counts_of» => "counts_of"
  | .«cut» => "cut"
  | .«depth» => "depth"
  | .«depth_of» => "depth_of"
  | .«do_deed» => "do_deed"
  | .«done» => "done"
  | .«down» => "down"
  | .«down_to» => "down_to"
  | .«earliest» => "earliest"
  | .«end_round» => "end_round"
  | .«ended» => "ended"
  | .«ends» => "ends"
  | .«expr_of» => "expr_of"
  | .«extend» => "extend"
  | .«fall» => "fall"
  | .«first» => "first"
  | .«first_worth» => "first_worth"
  | .«first_worths» => "first_worths"
  | .«fourth» => "fourth"
  | .«get» => "get"
  | .«go_back» => "go_back"
  | .«go_on» => "go_on"
  | .«groups» => "groups"
  | .«hall_at» => "hall_at"
  | .«hand» => "hand"
  | .«hands» => "hands"
  | .«has_hand» => "has_hand"
  | .«has_line» => "has_line"
  | .«has_turn» => "has_turn"
  | .«heard» => "heard"
  | .«heard_by_pieces» => "heard_by_pieces"
  | .«heard_in» => "heard_in"
  | .«holds» => "holds"
  | .«index» => "index"
  | .«inner» => "inner"
  | .«insert» => "insert"
  | .«is_closed» => "is_closed"
  | .«is_count» => "is_count"
  | .«is_count_seats» => "is_count_seats"
  | .«is_count_settings» => "is_count_settings"
  | .«is_deed» => "is_deed"
  | .«is_good» => "is_good"
  | .«is_letter» => "is_letter"
  | .«is_line» => "is_line"
  | .«is_line_ways» => "is_line_ways"
  | .«is_line_webs» => "is_line_webs"
  | .«is_number» => "is_number"
  | .«is_of_kind» => "is_of_kind"
  | .«is_pair» => "is_pair"
  | .«is_road» => "is_road"
  | .«is_whole» => "is_whole"
  | .«is_whole_roads» => "is_whole_roads"
  | .«is_whole_webs» => "is_whole_webs"
  | .«is_whole_worlds» => "is_whole_worlds"
  | .«is_world» => "is_world"
  | .«items» => "items"
  | .«join» => "join"
  | .«joined_to» => "joined_to"
  | .«kept» => "kept"
  | .«key_of» => "key_of"
  | .«lacking» => "lacking"
  | .«laid» => "laid"
  | .«last_worth» => "last_worth"
  | .«lateness» => "lateness"
  | .«lates» => "lates"
  | .«latest» => "latest"
  | .«law» => "law"
  | .«lay» => "lay"
  | .«leader» => "leader"
  | .«leads_on» => "leads_on"
  | .«learn» => "learn"
  | .«least_ended» => "least_ended"
  | .«lets» => "lets"
  | .«letter» => "letter"
  | .«letters» => "letters"
  | .«lines» => "lines"
  | .«lying» => "lying"
  | .«made_of» => "made_of"
  | .«many» => "many"
  | .«marks» => "marks"
  | .«may_stand» => "may_stand"
  | .«mend» => "mend"
  | .«move» => "move"
  | .«move_on» => "move_on"
  | .«neighbours» => "neighbours"
  | .«next_worth» => "next_worth"
  | .«note» => "note"
  | .«number» => "number"
  | .«number_of» => "number_of"
  | .«one» => "one"
  | .«other» => "other"
  | .«own_hands» => "own_hands"
  | .«own_lines» => "own_lines"
  | .«pair_rows» => "pair_rows"
  | .«pairs_of» => "pairs_of"
  | .«parent_by» => "parent_by"
  | .«parent_of» => "parent_of"
  | .«parents» => "parents"
  | .«parents_fit» => "parents_fit"
  | .«parts» => "parts"
  | .«pieces» => "pieces"
  | .«pieces_up_to» => "pieces_up_to"
  | .«plain_heard» => "plain_heard"
  | .«plain_worths» => "plain_worths"
  | .«pop» => "pop"
  | .«post» => "post"
  | .«program» => "program"
  | .«program_text» => "program_text"
  | .«put_to» => "put_to"
  | .«read_program» => "read_program"
  | .«read_setting» => "read_setting"
  | .«reckon» => "reckon"
  | .«remove» => "remove"
  | .«renew» => "renew"
  | .«replay» => "replay"
  | .«rest» => "rest"
  | .«reverse» => "reverse"
  | .«road» => "road"
  | .«roads» => "roads"
  | .«room_left» => "room_left"
  | .«rounds» => "rounds"
  | .«row» => "row"
  | .«rows_known» => "rows_known"
  | .«run_of» => "run_of"
  | .«said» => "said"
  | .«seat_of» => "seat_of"
  | .«seats» => "seats"
  | .«send» => "send"
  | .«sent» => "sent"
  | .«setdefault» => "setdefault"
  | .«setting_text» => "setting_text"
  | .«shown» => "shown"
  | .«sides» => "sides"
  | .«split» => "split"
  | .«stage» => "stage"
  | .«stands_right» => "stands_right"
  | .«start» => "start"
  | .«startswith» => "startswith"
  | .«steps_from» => "steps_from"
  | .«take» => "take"
  | .«takes» => "takes"
  | .«third» => "third"
  | .«throughs» => "throughs"
  | .«told» => "told"
  | .«up_from» => "up_from"
  | .«update» => "update"
  | .«upper» => "upper"
  | .«value» => "value"
  | .«values» => "values"
  | .«way» => "way"
  | .«way_now» => "way_now"
  | .«web» => "web"
  | .«web_now» => "web_now"
  | .«when» => "when"
  | .«word» => "word"
  | .«word_to» => "word_to"
  | .«words» => "words"
  | .«worlds» => "worlds"
  | .«worth» => "worth"
  | .«worths» => "worths"
  | .«worths_behind» => "worths_behind"
  | .«worths_by_pieces» => "worths_by_pieces"
end L3

set_option maxRecDepth 100000
namespace L3
open PySem L2

/-- data as a tree; .ref: an object that may change (its content in the map M), or anything by its place -/
inductive D where
  | non | bl (b : Bool) | int (i : Int) | str (x : Str) | ref (a : Addr)
  | tup (ds : List D) | lst (ds : List D) | dct (t : Bool) (kvs : List (D × D)) | ins (c : Nm) (fs : List (Nm × D))
  | ro (t : Bool) (ds : List D) | exc (c : Nm) (fs : List (Nm × D))
/-- what stands at a place that may change -/
inductive Cell where
  | lst (ds : List D) | dct (t : Bool) (kvs : List (D × D)) | ins (c : Nm) (fs : List (Nm × D))
abbrev Mm := Addr → Option Cell
def up (M : Mm) (a : Addr) (c : Cell) : Mm := fun b => if b = a then some c else M b
def del (M : Mm) (a : Addr) : Mm := fun b => if b = a then none else M b
theorem up_same {M : Mm} {a : Addr} {c : Cell} : up M a c a = some c := if_pos rfl
theorem up_ne {M : Mm} {a b : Addr} {c : Cell} (h : b ≠ a) : up M a c b = M b := if_neg h
theorem del_same {M : Mm} {a : Addr} : del M a a = none := if_pos rfl
theorem del_ne {M : Mm} {a b : Addr} (h : b ≠ a) : del M a b = M b := if_neg h
theorem up_up {M : Mm} {a : Addr} {c c' : Cell} : up (up M a c) a c' = up M a c' := by
  funext b; unfold up; split <;> rfl
theorem del_up {M : Mm} {a : Addr} {c : Cell} (h : M a = none) : del (up M a c) a = M := by
  funext b; unfold del up; split
  · next e => subst e; exact h.symm
  · rfl
/-- a smaller map -/
def Sub (M M' : Mm) : Prop := ∀ a c, M a = some c → M' a = some c
theorem Sub.refl {M : Mm} : Sub M M := fun _ _ h => h
theorem Sub.trans {M M' M'' : Mm} (h : Sub M M') (h' : Sub M' M'') : Sub M M'' := fun a c e => h' a c (h a c e)
theorem Sub.up {M M' : Mm} {a : Addr} {c : Cell} (h : Sub M M') (n : M a = none) : Sub M (L3.up M' a c) := fun b d e => by
  have : b ≠ a := fun z => by subst z; rw [n] at e; cases e
  rw [up_ne this]; exact h b d e
theorem Sub.none {M M' : Mm} (h : Sub M M') {a : Addr} (n : M' a = none) : M a = none := by
  cases e : M a with
  | none => rfl
  | some c => rw [h a c e] at n; cases n

structure Cfg where
  K : PySem.W.Frag
  /-- classes that isinstance is asked of, that are raised; classes of instances -/
  cls : Nm → Option Addr
  icls : Nm → Option Addr
  fl : Nm → List Nm
  /-- places that are hidden: lists and dicts that are being made -/
  Z : Addr → Prop := fun _ => False
  /-- within an except's suite; and the name's place, the exception, its class and fields' place -/
  hot : Bool := false
  cur : Option (Nat × Addr × Nm × Option Addr) := none
/-- other hidden ones -/
def Cfg.z (c : Cfg) (Z : Addr → Prop) : Cfg := { c with Z := Z }
/-- in an except's suite, or out of it -/
def Cfg.su (c : Cfg) (h : Bool) (u : Option (Nat × Addr × Nm × Option Addr)) : Cfg := { c with hot := h, cur := u }
/-- a place that stands -/
def Fr (c : Cfg) (M : Mm) (a : Addr) : Prop := M a = none ∧ ¬ c.Z a

def keyD : Key → D
  | .inl i => .int i
  | .inr x => .str x

/-- a list of the module's own, a tuple -/
def KL (K : PySem.W.Frag) (a : Addr) (xs : List V) : Prop :=
  ∃ (o : Obj) (its : Array Value) (n : Nat), K.lookup a = some o ∧ o.cls = .type "list" ∧ o.dict = none ∧ o.data = .seq its n ∧ its.size ≤ sizeLine ∧ Vals xs its.toList
def KT (K : PySem.W.Frag) (a : Addr) (xs : List V) : Prop :=
  ∃ (o : Obj) (its : Array Value) (n : Nat), K.lookup a = some o ∧ o.cls = .type "tuple" ∧ o.data = .seq its n ∧ its.size ≤ sizeLine ∧ Vals xs its.toList

mutual
inductive Rep (c : Cfg) (H : Hp) (M : Mm) : V → D → Prop
  | non : Rep c H M .non .non
  | bl (b : Bool) : Rep c H M (.bl b) (.bl b)
  | int (i : Int) : Rep c H M (.int i) (.int i)
  | str (x : Str) : Rep c H M (.str x) (.str x)
  | ref (a : Addr) : Rep c H M (.ref a) (.ref a)
  | exc (a : Addr) (n : Nm) (fs : List (Nm × D)) : Rep c H M (.ref a) (.exc n fs)
  | lst {a : Addr} {vs : List V} {ds : List D} : H a = some (.lst vs) → Fr c M a → vs.length ≤ sizeLine → Reps c H M vs ds → Rep c H M (.ref a) (.lst ds)
  | tup {a : Addr} {vs : List V} {ds : List D} : H a = some (.tup vs) → Fr c M a → vs.length ≤ sizeLine → Reps c H M vs ds → Rep c H M (.ref a) (.tup ds)
  | roL {a : Addr} {vs : List V} {ds : List D} : (Rd H a (.lst vs) ∧ Fr c M a ∨ KL c.K a vs) → vs.length ≤ sizeLine → Reps c H M vs ds → Rep c H M (.ref a) (.ro false ds)
  | roT {a : Addr} {vs : List V} {ds : List D} : KT c.K a vs → vs.length ≤ sizeLine → Reps c H M vs ds → Rep c H M (.ref a) (.ro true ds)
  | dK {a : Addr} {ks : List (Key × V)} {kvs : List (D × D)} : Rd H a (.dK ks) → Fr c M a → ks.length ≤ sizeLine → RepK c H M ks kvs → Rep c H M (.ref a) (.dct false kvs)
  | dT {a : Addr} {ks : List (List Key × V)} {kvs : List (D × D)} : Rd H a (.dT ks) → Fr c M a → ks.length ≤ sizeLine → RepT c H M ks kvs → Rep c H M (.ref a) (.dct true kvs)
  | ins {a C dx : Addr} {vs : List (Str × V)} {n : Nm} {fs : List (Nm × D)} : H a = some (.ins C dx vs) → Fr c M a → c.icls n = some C → (∀ p ∈ fs, p.1 ∈ c.fl n) → RepF c H M vs fs → Rep c H M (.ref a) (.ins n fs)
inductive Reps (c : Cfg) (H : Hp) (M : Mm) : List V → List D → Prop
  | nil : Reps c H M [] []
  | cons {v : V} {d : D} {vs : List V} {ds : List D} : Rep c H M v d → Reps c H M vs ds → Reps c H M (v :: vs) (d :: ds)
inductive RepK (c : Cfg) (H : Hp) (M : Mm) : List (Key × V) → List (D × D) → Prop
  | nil : RepK c H M [] []
  | cons {k : Key} {v : V} {d : D} {ks : List (Key × V)} {kvs : List (D × D)} : Rep c H M v d → RepK c H M ks kvs → RepK c H M ((k, v) :: ks) ((keyD k, d) :: kvs)
inductive RepT (c : Cfg) (H : Hp) (M : Mm) : List (List Key × V) → List (D × D) → Prop
  | nil : RepT c H M [] []
  | cons {k : List Key} {v : V} {d : D} {ks : List (List Key × V)} {kvs : List (D × D)} : k.length ≤ sizeLine → Rep c H M v d → RepT c H M ks kvs → RepT c H M ((k, v) :: ks) ((.tup (k.map keyD), d) :: kvs)
inductive RepF (c : Cfg) (H : Hp) (M : Mm) : List (Str × V) → List (Nm × D) → Prop
  | nil : RepF c H M [] []
  | cons {n : Nm} {v : V} {d : D} {vs : List (Str × V)} {fs : List (Nm × D)} : Rep c H M v d → RepF c H M vs fs → RepF c H M ((n.s, v) :: vs) ((n, d) :: fs)
end

/-- what a step may do: what is known and does not change stands -/
structure Stp (H : Hp) (M : Mm) (H' : Hp) (M' : Mm) : Prop where
  keep : ∀ a o, H a = some o → M a = none → H' a = some o
  nn : ∀ a, H a ≠ none → M a = none → M' a = none
theorem Stp.refl {H : Hp} {M : Mm} : Stp H M H M := ⟨fun _ _ h _ => h, fun _ _ h => h⟩
theorem Stp.trans {H H1 H2 : Hp} {M M1 M2 : Mm} (a : Stp H M H1 M1) (b : Stp H1 M1 H2 M2) : Stp H M H2 M2 :=
  ⟨fun x o h n => b.keep x o (a.keep x o h n) (a.nn x (by rw [h]; exact fun z => nomatch z) n), fun x h n => by
    cases e : H x with
    | none => exact absurd e h
    | some o => exact b.nn x (by rw [a.keep x o e n]; exact fun z => nomatch z) (a.nn x h n)⟩
theorem Stp.rd {H H' : Hp} {M M' : Mm} (s : Stp H M H' M') {a : Addr} {u : HO} (h : Rd H a u) (n : M a = none) : Rd H' a u ∧ M' a = none := by
  rcases h with h | ⟨o, h⟩
  · exact ⟨.inl (s.keep a _ h n), s.nn a (by rw [h]; exact fun z => nomatch z) n⟩
  · exact ⟨.inr ⟨o, s.keep a _ h n⟩, s.nn a (by rw [h]; exact fun z => nomatch z) n⟩

/-- a general change of view: each known thing stays readable -/
structure View (c : Cfg) (H : Hp) (M : Mm) (H' : Hp) (M' : Mm) : Prop where
  exL : ∀ a vs, H a = some (.lst vs) → Fr c M a → H' a = some (.lst vs) ∧ Fr c M' a
  rdL : ∀ a vs, Rd H a (.lst vs) → Fr c M a → Rd H' a (.lst vs) ∧ Fr c M' a
  exT : ∀ a vs, H a = some (.tup vs) → Fr c M a → H' a = some (.tup vs) ∧ Fr c M' a
  rdK : ∀ a vs, Rd H a (.dK vs) → Fr c M a → Rd H' a (.dK vs) ∧ Fr c M' a
  rdD : ∀ a vs, Rd H a (.dT vs) → Fr c M a → Rd H' a (.dT vs) ∧ Fr c M' a
  rdI : ∀ a C dx vs, H a = some (.ins C dx vs) → Fr c M a → H' a = some (.ins C dx vs) ∧ Fr c M' a
theorem Stp.view {c : Cfg} {H H' : Hp} {M M' : Mm} (s : Stp H M H' M') : View c H M H' M' :=
  ⟨fun a vs h n => ⟨s.keep a _ h n.1, s.nn a (by rw [h]; exact fun z => nomatch z) n.1, n.2⟩, fun _ _ h n => let w := s.rd h n.1; ⟨w.1, w.2, n.2⟩, fun a vs h n => ⟨s.keep a _ h n.1, s.nn a (by rw [h]; exact fun z => nomatch z) n.1, n.2⟩, fun _ _ h n => let w := s.rd h n.1; ⟨w.1, w.2, n.2⟩, fun _ _ h n => let w := s.rd h n.1; ⟨w.1, w.2, n.2⟩, fun a C dx vs h n => ⟨s.keep a _ h n.1, s.nn a (by rw [h]; exact fun z => nomatch z) n.1, n.2⟩⟩

section
variable {c : Cfg} {H H' : Hp} {M M' : Mm}
mutual
theorem Rep.view (s : View c H M H' M') : ∀ {v : V} {d : D}, Rep c H M v d → Rep c H' M' v d
  | _, _, .non => .non
  | _, _, .bl b => .bl b
  | _, _, .int i => .int i
  | _, _, .str x => .str x
  | _, _, .ref a => .ref a
  | _, _, .exc a n fs => .exc a n fs
  | _, _, .lst h n z r => .lst (s.exL _ _ h n).1 (s.exL _ _ h n).2 z (Reps.view s r)
  | _, _, .tup h n z r => .tup (s.exT _ _ h n).1 (s.exT _ _ h n).2 z (Reps.view s r)
  | _, _, .roL h z r => .roL (h.imp (fun q => s.rdL _ _ q.1 q.2) id) z (Reps.view s r)
  | _, _, .roT h z r => .roT h z (Reps.view s r)
  | _, _, .dK h n z r => .dK (s.rdK _ _ h n).1 (s.rdK _ _ h n).2 z (RepK.view s r)
  | _, _, .dT h n z r => .dT (s.rdD _ _ h n).1 (s.rdD _ _ h n).2 z (RepT.view s r)
  | _, _, .ins h n z k r => .ins (s.rdI _ _ _ _ h n).1 (s.rdI _ _ _ _ h n).2 z k (RepF.view s r)
theorem Reps.view (s : View c H M H' M') : ∀ {v : List V} {d : List D}, Reps c H M v d → Reps c H' M' v d
  | _, _, .nil => .nil
  | _, _, .cons a b => .cons (Rep.view s a) (Reps.view s b)
theorem RepK.view (s : View c H M H' M') : ∀ {v : List (Key × V)} {d : List (D × D)}, RepK c H M v d → RepK c H' M' v d
  | _, _, .nil => .nil
  | _, _, .cons a b => .cons (Rep.view s a) (RepK.view s b)
theorem RepT.view (s : View c H M H' M') : ∀ {v : List (List Key × V)} {d : List (D × D)}, RepT c H M v d → RepT c H' M' v d
  | _, _, .nil => .nil
  | _, _, .cons z a b => .cons z (Rep.view s a) (RepT.view s b)
theorem RepF.view (s : View c H M H' M') : ∀ {v : List (Str × V)} {d : List (Nm × D)}, RepF c H M v d → RepF c H' M' v d
  | _, _, .nil => .nil
  | _, _, .cons a b => .cons (Rep.view s a) (RepF.view s b)
end
theorem Rep.stp (s : Stp H M H' M') {v : V} {d : D} (h : Rep c H M v d) : Rep c H' M' v d := h.view s.view
theorem Reps.stp (s : Stp H M H' M') {v : List V} {d : List D} (h : Reps c H M v d) : Reps c H' M' v d := h.view s.view

/-- a cell is held -/
inductive CellOk (c : Cfg) (H : Hp) (M : Mm) (a : Addr) : Cell → Prop
  | lst {vs : List V} {ds : List D} : H a = some (.lst vs) → vs.length ≤ sizeLine → Reps c H M vs ds → CellOk c H M a (.lst ds)
  | dK {ks : List (Key × V)} {kvs : List (D × D)} : H a = some (.dK ks) → ks.length ≤ sizeLine → RepK c H M ks kvs → CellOk c H M a (.dct false kvs)
  | dT {ks : List (List Key × V)} {kvs : List (D × D)} : H a = some (.dT ks) → ks.length ≤ sizeLine → RepT c H M ks kvs → CellOk c H M a (.dct true kvs)
  | ins {C dx : Addr} {vs : List (Str × V)} {n : Nm} {fs : List (Nm × D)} : H a = some (.ins C dx vs) → c.icls n = some C → (∀ p ∈ fs, p.1 ∈ c.fl n) → RepF c H M vs fs → CellOk c H M a (.ins n fs)
/-- what hides there -/
def Hid (H : Hp) (a : Addr) : Prop := (∃ vs, H a = some (.lst vs)) ∨ ∃ ks, H a = some (.dK ks)
structure Cells (c : Cfg) (H : Hp) (M : Mm) : Prop where
  at' : ∀ a x, M a = some x → CellOk c H M a x
  z : ∀ a, c.Z a → Hid H a ∧ M a = none
theorem CellOk.there {a : Addr} {x : Cell} (h : CellOk c H M a x) : ∃ o, H a = some o := by
  cases h with
  | lst h => exact ⟨_, h⟩
  | dK h => exact ⟨_, h⟩
  | dT h => exact ⟨_, h⟩
  | ins h => exact ⟨_, h⟩
theorem Cells.fresh (h : Cells c H M) {a : Addr} (n : H a = none) : M a = none := by
  cases e : M a with
  | none => rfl
  | some x =>
    obtain ⟨o, q⟩ := (h.at' a x e).there
    rw [n] at q; cases q
theorem Hid.there {H : Hp} {a : Addr} (h : Hid H a) : ∃ o, H a = some o := by
  rcases h with ⟨_, h⟩ | ⟨_, h⟩ <;> exact ⟨_, h⟩
theorem Hid.eq {H H' : Hp} {a : Addr} (h : Hid H a) (e : H' a = H a) : Hid H' a := by
  unfold Hid; rw [e]; exact h
theorem Cells.free (h : Cells c H M) {a : Addr} (n : H a = none) : Fr c M a := ⟨h.fresh n, fun z => by
  obtain ⟨o, q⟩ := (h.z a z).1.there
  rw [n] at q; cases q⟩
/-- a cell under another view -/
theorem CellOk.view (s : View c H M H' M') {a : Addr} {x : Cell} (h : CellOk c H M a x) (e : H' a = H a) : CellOk c H' M' a x := by
  cases h with
  | lst h z r => exact .lst (e.trans h) z (r.view s)
  | dK h z r => exact .dK (e.trans h) z (r.view s)
  | dT h z r => exact .dT (e.trans h) z (r.view s)
  | ins h z k r => exact .ins (e.trans h) z k (r.view s)

/-! ### the three changes: a new object, a change, a thing that stands from now on -/
theorem stp_new {a : Addr} {o : HO} (ok : Cells c H M) (n : H a = none) : Stp H M (upd H a o) M := by
  refine ⟨fun b u h _ => by rw [upd_ne (ne_of_none h n)]; exact h, fun _ _ h => h⟩
theorem cells_new {a : Addr} {o : HO} (ok : Cells c H M) (n : H a = none) : Cells c (upd H a o) M := ⟨fun b x e => by
  refine (ok.at' b x e).view (stp_new ok n).view (upd_ne ?_)
  obtain ⟨u, q⟩ := (ok.at' b x e).there
  exact ne_of_none q n, fun b z => by
  obtain ⟨h1, h2⟩ := ok.z b z
  obtain ⟨u, q⟩ := h1.there
  exact ⟨h1.eq (upd_ne (ne_of_none q n)), h2⟩⟩
/-- a new cell -/
theorem stp_newc {a : Addr} {o : HO} {x : Cell} (ok : Cells c H M) (n : H a = none) : Stp H M (upd H a o) (up M a x) := by
  refine ⟨fun b u h _ => by rw [upd_ne (ne_of_none h n)]; exact h, fun b h m => ?_⟩
  have : b ≠ a := fun z => by subst z; exact h n
  rw [up_ne this]; exact m
theorem cells_newc {a : Addr} {o : HO} {x : Cell} (ok : Cells c H M) (n : H a = none) (hx : CellOk c (upd H a o) (up M a x) a x) : Cells c (upd H a o) (up M a x) := ⟨fun b y e => by
  by_cases hb : b = a
  · subst hb; rw [up_same] at e; cases e; exact hx
  · rw [up_ne hb] at e
    exact (ok.at' b y e).view (stp_newc ok n).view (upd_ne hb), fun b z => by
  obtain ⟨h1, h2⟩ := ok.z b z
  obtain ⟨u, q⟩ := h1.there
  have hb := ne_of_none q n
  exact ⟨h1.eq (upd_ne hb), by rw [up_ne hb]; exact h2⟩⟩
/-- a cell changes -/
theorem stp_set {a : Addr} {o : HO} {x x' : Cell} (ok : Cells c H M) (n : M a = some x) : Stp H M (upd H a o) (up M a x') := by
  refine ⟨fun b u h m => ?_, fun b h m => ?_⟩
  · have : b ≠ a := fun z => by subst z; rw [n] at m; cases m
    rw [upd_ne this]; exact h
  · have : b ≠ a := fun z => by subst z; rw [n] at m; cases m
    rw [up_ne this]; exact m
theorem cells_set {a : Addr} {o : HO} {x x' : Cell} (ok : Cells c H M) (n : M a = some x) (hx : CellOk c (upd H a o) (up M a x') a x') : Cells c (upd H a o) (up M a x') := ⟨fun b y e => by
  by_cases hb : b = a
  · subst hb; rw [up_same] at e; cases e; exact hx
  · rw [up_ne hb] at e
    exact (ok.at' b y e).view (stp_set ok n).view (upd_ne hb), fun b z => by
  obtain ⟨h1, h2⟩ := ok.z b z
  have hb : b ≠ a := fun w => by subst w; rw [n] at h2; cases h2
  exact ⟨h1.eq (upd_ne hb), by rw [up_ne hb]; exact h2⟩⟩
/-- fewer cells: what is dropped stands from now on -/
theorem stp_sub {M' : Mm} (h : ∀ a, M a = none → M' a = none) : Stp H M H M' := ⟨fun _ _ q _ => q, fun a _ n => h a n⟩
theorem cells_sub {M' : Mm} (ok : Cells c H M) (h : Sub M' M) : Cells c H M' := ⟨fun a x e =>
  (ok.at' a x (h a x e)).view (stp_sub fun _ n => h.none n).view rfl, fun a z => ⟨(ok.z a z).1, h.none (ok.z a z).2⟩⟩

/-- a hidden place changes -/
theorem view_hid {a : Addr} {o : HO} (hz : c.Z a) : View c H M (upd H a o) M :=
  have ne : ∀ {b}, Fr c M b → b ≠ a := fun n e => n.2 (by rw [e]; exact hz)
  ⟨fun b vs h n => ⟨by rw [upd_ne (ne n)]; exact h, n⟩, fun b vs h n => ⟨by unfold Rd at h ⊢; rw [upd_ne (ne n)]; exact h, n⟩, fun b vs h n => ⟨by rw [upd_ne (ne n)]; exact h, n⟩, fun b vs h n => ⟨by unfold Rd at h ⊢; rw [upd_ne (ne n)]; exact h, n⟩, fun b vs h n => ⟨by unfold Rd at h ⊢; rw [upd_ne (ne n)]; exact h, n⟩, fun b C dx vs h n => ⟨by rw [upd_ne (ne n)]; exact h, n⟩⟩
theorem cells_hid {a : Addr} {o : HO} (ok : Cells c H M) (hz : c.Z a) (hh : Hid (upd H a o) a) : Cells c (upd H a o) M := ⟨fun b x e => by
  have ne : b ≠ a := fun q => by
    have := (ok.z a hz).2
    rw [← q, e] at this
    exact nomatch this
  exact (ok.at' b x e).view (view_hid hz) (upd_ne ne), fun b z => by
  by_cases q : b = a
  · subst q; exact ⟨hh, (ok.z b z).2⟩
  · exact ⟨(ok.z b z).1.eq (upd_ne q), (ok.z b z).2⟩⟩

/-! ### other hidden places -/
section
variable {Z : Addr → Prop}
mutual
theorem Rep.zset (hz : ∀ a, Z a → c.Z a ∨ H a = none) : ∀ {v : V} {d : D}, Rep c H M v d → Rep (c.z Z) H M v d
  | _, _, .non => .non
  | _, _, .bl b => .bl b
  | _, _, .int i => .int i
  | _, _, .str x => .str x
  | _, _, .ref a => .ref a
  | _, _, .exc a n fs => .exc a n fs
  | _, _, .lst h n z r => .lst h ⟨n.1, fun q => (hz _ q).elim n.2 fun e => by rw [h] at e; cases e⟩ z (Reps.zset hz r)
  | _, _, .tup h n z r => .tup h ⟨n.1, fun q => (hz _ q).elim n.2 fun e => by rw [h] at e; cases e⟩ z (Reps.zset hz r)
  | _, _, .roL h z r => .roL (h.imp (fun q => ⟨q.1, q.2.1, fun w => (hz _ w).elim q.2.2 fun e => by rcases q.1 with k | ⟨o, k⟩ <;> (rw [k] at e; cases e)⟩) id) z (Reps.zset hz r)
  | _, _, .roT h z r => .roT h z (Reps.zset hz r)
  | _, _, .dK h n z r => .dK h ⟨n.1, fun w => (hz _ w).elim n.2 fun e => by rcases h with k | ⟨o, k⟩ <;> (rw [k] at e; cases e)⟩ z (RepK.zset hz r)
  | _, _, .dT h n z r => .dT h ⟨n.1, fun w => (hz _ w).elim n.2 fun e => by rcases h with k | ⟨o, k⟩ <;> (rw [k] at e; cases e)⟩ z (RepT.zset hz r)
  | _, _, .ins h n z k r => .ins h ⟨n.1, fun q => (hz _ q).elim n.2 fun e => by rw [h] at e; cases e⟩ z k (RepF.zset hz r)
theorem Reps.zset (hz : ∀ a, Z a → c.Z a ∨ H a = none) : ∀ {v : List V} {d : List D}, Reps c H M v d → Reps (c.z Z) H M v d
  | _, _, .nil => .nil
  | _, _, .cons a b => .cons (Rep.zset hz a) (Reps.zset hz b)
theorem RepK.zset (hz : ∀ a, Z a → c.Z a ∨ H a = none) : ∀ {v : List (Key × V)} {d : List (D × D)}, RepK c H M v d → RepK (c.z Z) H M v d
  | _, _, .nil => .nil
  | _, _, .cons a b => .cons (Rep.zset hz a) (RepK.zset hz b)
theorem RepT.zset (hz : ∀ a, Z a → c.Z a ∨ H a = none) : ∀ {v : List (List Key × V)} {d : List (D × D)}, RepT c H M v d → RepT (c.z Z) H M v d
  | _, _, .nil => .nil
  | _, _, .cons z a b => .cons z (Rep.zset hz a) (RepT.zset hz b)
theorem RepF.zset (hz : ∀ a, Z a → c.Z a ∨ H a = none) : ∀ {v : List (Str × V)} {d : List (Nm × D)}, RepF c H M v d → RepF (c.z Z) H M v d
  | _, _, .nil => .nil
  | _, _, .cons a b => .cons (Rep.zset hz a) (RepF.zset hz b)
end
theorem CellOk.zset (hz : ∀ a, Z a → c.Z a ∨ H a = none) {a : Addr} {x : Cell} (h : CellOk c H M a x) : CellOk (c.z Z) H M a x := by
  cases h with
  | lst h z r => exact .lst h z (r.zset hz)
  | dK h z r => exact .dK h z (r.zset hz)
  | dT h z r => exact .dT h z (r.zset hz)
  | ins h z k r => exact .ins h z k (r.zset hz)
end
section
variable {h : Bool} {u : Option (Nat × Addr × Nm × Option Addr)}
mutual
theorem Rep.su : ∀ {v : V} {d : D}, Rep c H M v d → Rep (c.su h u) H M v d
  | _, _, .non => .non
  | _, _, .bl b => .bl b
  | _, _, .int i => .int i
  | _, _, .str x => .str x
  | _, _, .ref a => .ref a
  | _, _, .exc a n fs => .exc a n fs
  | _, _, .lst h n z r => .lst h n z (Reps.su r)
  | _, _, .tup h n z r => .tup h n z (Reps.su r)
  | _, _, .roL h z r => .roL h z (Reps.su r)
  | _, _, .roT h z r => .roT h z (Reps.su r)
  | _, _, .dK h n z r => .dK h n z (RepK.su r)
  | _, _, .dT h n z r => .dT h n z (RepT.su r)
  | _, _, .ins h n z k r => .ins h n z k (RepF.su r)
theorem Reps.su : ∀ {v : List V} {d : List D}, Reps c H M v d → Reps (c.su h u) H M v d
  | _, _, .nil => .nil
  | _, _, .cons a b => .cons (Rep.su a) (Reps.su b)
theorem RepK.su : ∀ {v : List (Key × V)} {d : List (D × D)}, RepK c H M v d → RepK (c.su h u) H M v d
  | _, _, .nil => .nil
  | _, _, .cons a b => .cons (Rep.su a) (RepK.su b)
theorem RepT.su : ∀ {v : List (List Key × V)} {d : List (D × D)}, RepT c H M v d → RepT (c.su h u) H M v d
  | _, _, .nil => .nil
  | _, _, .cons z a b => .cons z (Rep.su a) (RepT.su b)
theorem RepF.su : ∀ {v : List (Str × V)} {d : List (Nm × D)}, RepF c H M v d → RepF (c.su h u) H M v d
  | _, _, .nil => .nil
  | _, _, .cons a b => .cons (Rep.su a) (RepF.su b)
end
theorem CellOk.su {a : Addr} {x : Cell} (q : CellOk c H M a x) : CellOk (c.su h u) H M a x := by
  cases q with
  | lst h z r => exact .lst h z r.su
  | dK h z r => exact .dK h z r.su
  | dT h z r => exact .dT h z r.su
  | ins h z k r => exact .ins h z k r.su
theorem Cells.su (q : Cells c H M) : Cells (c.su h u) H M := ⟨fun a x e => (q.at' a x e).su, q.z⟩
end
end
end L3

set_option maxRecDepth 100000
set_option maxHeartbeats 4000000
namespace L3
open PySem PySem.Spec PyProof.Rows L2
/-! ### zip of a list and a tuple -/
def ItzM (K : PySem.W.Frag) (a b : Addr) : It :=
  ⟨fun i H => ∃ (us ws : List V) (u w : V), SqL K H a us ∧ SqT K H b ws ∧ us[i]? = some u ∧ ws[i]? = some w,
    fun i H v H' => ∃ T u w, v = .ref T ∧ H T = none ∧ H' = upd H T (.tup [u, w]) ∧ (∀ us, SqL K H a us → us[i]? = some u) ∧ ∀ ws, SqT K H b ws → ws[i]? = some w,
    fun i H => ∃ us ws : List V, SqL K H a us ∧ SqT K H b ws ∧ (us.length ≤ i ∨ ws.length ≤ i)⟩
theorem drop_l {P : Program} {w : World} {A : Around} (hh : A.handled = none) (it l : Addr) (its : Array Value) (i : Nat) (hx : its[i]? = none) :
    Draws P w A it [it, l] i (fun _ _ => True) (fun j h => j = i ∧ h.IsListIter it l i ∧ h.IsList l its) where
  live := fun _ _ st => let ⟨o, ho, _⟩ := st.2.1; ⟨o, ho⟩
  frame := fun _ _ _ st hk => ⟨st.1, st.2.1.at fun o e => hk it (by simp) o e, st.2.2.at fun o e => hk l (by simp) o e⟩
  item := fun j s Q E hj st _ => absurd st.1 (Nat.ne_of_lt hj)
  done := fun s Q E st hE => wpAny_nextOf_list_end hh st.2.1 st.2.2 hx hE
theorem drop_t {P : Program} {w : World} {A : Around} (hh : A.handled = none) (it l : Addr) (its : Array Value) (i : Nat) (hx : its[i]? = none) :
    Draws P w A it [it, l] i (fun _ _ => True) (fun j h => j = i ∧ h.IsTupleIter it l i ∧ h.IsTuple l its) where
  live := fun _ _ st => let ⟨o, ho, _⟩ := st.2.1; ⟨o, ho⟩
  frame := fun _ _ _ st hk => ⟨st.1, st.2.1.at fun o e => hk it (by simp) o e, st.2.2.at fun o e => hk l (by simp) o e⟩
  item := fun j s Q E hj st _ => absurd st.1 (Nat.ne_of_lt hj)
  done := fun s Q E st hE => wpAny_nextOf_tuple_end hh st.2.1 st.2.2 hx hE
theorem ne_li {h : Heap} {i1 a : Addr} {k : Nat} {its : Array Value} (u : h.IsListIter i1 a k) (p : h.IsList a its) : a ≠ i1 := fun e => by
  subst e
  obtain ⟨o, ho, hcl, _⟩ := u
  obtain ⟨o', ho', hcl', _⟩ := p
  rw [ho] at ho'
  cases ho'
  have q := hcl.symm.trans hcl'
  injection q with q
  exact absurd q (by decide)
theorem ne_ti {h : Heap} {i1 a : Addr} {k : Nat} {its : Array Value} (u : h.IsTupleIter i1 a k) (p : h.IsTuple a its) : a ≠ i1 := fun e => by
  subst e
  obtain ⟨o, ho, hcl, _⟩ := u
  obtain ⟨o', ho', hcl', _⟩ := p
  rw [ho] at ho'
  cases ho'
  have q := hcl.symm.trans hcl'
  injection q with q
  exact absurd q (by decide)
structure SepM (z ti tO i1 i2 a b : Addr) : Prop where
  s : ZipSep2 z ti tO i1 i2 [i1, a] [i2, b]
theorem turn_zipM {P : Program} {w : World} {K : PySem.W.Frag} {elts : List Expr} {kk : Nat} {tpos : Pos} {a b z ti tO i1 i2 : Addr} (D : SepM z ti tO i1 i2 a b) :
    Turn P w K (.Tuple elts kk tpos) (ItzM K a b) [z, ti, tO, i1, i2] z (fun i h => IsZip h z ti tO .none ∧ IsTupOf2 h ti (.ref i1) (.ref i2) ∧ (∃ x y, IsTupOf2 h tO x y) ∧ h.IsListIter i1 a i ∧ h.IsTupleIter i2 b i) where
  mem := List.mem_cons_self
  obj := fun i h st c hc => by
    obtain ⟨t1, t2, ⟨x, y, t3⟩, ⟨o1, e1, _, d1⟩, ⟨o2, e2, _, d2⟩⟩ := st
    simp only [List.mem_cons, List.not_mem_nil, or_false] at hc
    rcases hc with rfl | rfl | rfl | rfl | rfl
    · exact ⟨_, t1, fun v => (nomatch ·)⟩
    · exact ⟨_, t2, fun v => (nomatch ·)⟩
    · exact ⟨_, t3, fun v => (nomatch ·)⟩
    · exact ⟨o1, e1, fun v q => by simp [d1] at q⟩
    · exact ⟨o2, e2, fun v q => by simp [d2] at q⟩
  keep := fun i h h' st k => by
    obtain ⟨t1, t2, ⟨x, y, t3⟩, u1, u2⟩ := st
    exact ⟨k z (by simp) _ t1, k ti (by simp) _ t2, ⟨x, y, k tO (by simp) _ t3⟩, u1.at fun o q => k i1 (by simp) o q, u2.at fun o q => k i2 (by simp) o q⟩
  item := by
    intro X hP hw hK hc i pins s σ H E I hf st hg
    subst hP hw hK
    obtain ⟨t1, t2, t3, u1, u2⟩ := st
    obtain ⟨us, ws, u, v, hus, hws, hu, hv⟩ := hg
    obtain ⟨its, rv, p, _⟩ := I.list hus
    obtain ⟨its2, rv2, p2, _⟩ := I.tuple hws
    obtain ⟨x, gx, rx⟩ := rv.get hu
    obtain ⟨y, gy, ry⟩ := rv2.get hv
    have hh : X.A.in1.handled = none := I.ok.hd hc
    have gx' : its.toArray[i]? = some x := by simpa using gx
    have gy' : its2.toArray[i]? = some y := by simpa using gy
    have b1 : i < its.toArray.size := (Array.getElem?_eq_some_iff.mp gx').1
    have b2 : i < its2.toArray.size := (Array.getElem?_eq_some_iff.mp gy').1
    have na := ne_li u1 p.isList
    have nb := ne_ti u2 p2
    have G := GoesN.zip2 (elts := elts) (x1 := kk) (pos := tpos) D.s (Draws.list (prog := X.prog) (w := X.w) hh i1 a na its.toArray) (Draws.tuple (prog := X.prog) (w := X.w) hh i2 b nb its2.toArray)
    refine G.goes i s _ E (by omega) ⟨t1, t2, t3, ⟨u1, p.isList⟩, ⟨u2, p2⟩⟩ fun vv h' tk ⟨T, x', y', ev, hT, q1, q2, tup⟩ st' kp htk => ?_
    subst ev
    rw [gx'] at q1; cases q1
    rw [gy'] at q2; cases q2
    obtain ⟨oT, hoT, hcT, nT, hdT⟩ := tup
    have new : ObjOk X.prog X.w (upd H T (.tup [u, v])) h' T (.tup [u, v]) :=
      ⟨by show 2 ≤ sizeLine; decide, [x, y], .cons rx (.cons ry .nil), ⟨oT, hoT, hcT, nT, hdT⟩⟩
    have sub : ∀ c o, c ∉ [z, ti, tO, i1, i2] → s.heap.get? c = some o → h'.get? c = some o := fun c o hc e => kp c o (fun hm => hc (by
      simp only [List.mem_cons, List.not_mem_nil, or_false] at hm ⊢
      rcases hm with h | h | h | h <;> simp [h])) e
    have J : Inv X pins σ (upd H T (.tup [u, v])) { s with heap := h', toks := tk } := I.turnedNew (t' := tk) (ch := [z, ti, tO, i1, i2]) sub hf hT new
    refine ⟨.ref T, _, J, rfl, ⟨T, u, v, rfl, I.hok.fresh hT, rfl, fun l hl => by rw [I.list_inj hl hus]; exact hu, fun l hl => by rw [I.tuple_inj hl hws]; exact hv⟩, ⟨st'.1, st'.2.1, st'.2.2.1, st'.2.2.2.1.1, st'.2.2.2.2.1⟩, fun c hcm => ?_⟩
    have hlt : c < s.heap.objs.size := by
      simp only [List.mem_cons, List.not_mem_nil, or_false] at hcm
      obtain ⟨_, _, t3⟩ := t3
      rcases hcm with rfl | rfl | rfl | rfl | rfl
      · exact Heap.lt_size t1
      · exact Heap.lt_size t2
      · exact Heap.lt_size t3
      · obtain ⟨_, e, _⟩ := u1; exact Heap.lt_size e
      · obtain ⟨_, e, _⟩ := u2; exact Heap.lt_size e
    rw [upd_ne (Nat.ne_of_lt (Nat.lt_of_lt_of_le hlt hT))]
    exact (hf c hcm).1
  done := by
    intro X hP hw hK hc i pins s σ H E I hf st hg
    subst hP hw hK
    obtain ⟨t1, t2, t3, u1, u2⟩ := st
    obtain ⟨us, ws, hus, hws, hend⟩ := hg
    obtain ⟨its, rv, p, _⟩ := I.list hus
    obtain ⟨its2, rv2, p2, _⟩ := I.tuple hws
    have hh : X.A.in1.handled = none := I.ok.hd hc
    have l1 : its.toArray.size = us.length := by rw [rv.length]; simp
    have l2 : its2.toArray.size = ws.length := by rw [rv2.length]; simp
    have na := ne_li u1 p.isList
    have nb := ne_ti u2 p2
    have fin : ∀ (h' : Heap) (tk : Nat), (∀ c o, c ∉ [z, tO, i1, i2] → s.heap.get? c = some o → h'.get? c = some o) → s.toks ≤ tk → Inv X pins σ H { s with heap := h', toks := tk } := fun h' tk kp _ =>
      I.turnedL (t' := tk) (ch := [z, ti, tO, i1, i2]) (fun c o hc e => kp c o (fun hm => hc (by
        simp only [List.mem_cons, List.not_mem_nil, or_false] at hm ⊢
        rcases hm with h | h | h | h <;> simp [h])) e) hf
    by_cases h1 : us.length ≤ i
    · have x1 : its.toArray[i]? = none := Array.getElem?_eq_none (by omega)
      by_cases h2 : ws.length ≤ i
      · have x2 : its2.toArray[i]? = none := Array.getElem?_eq_none (by omega)
        have G := GoesN.zip2 (elts := elts) (x1 := kk) (pos := tpos) D.s (drop_l (P := X.prog) (w := X.w) hh i1 a its.toArray i x1) (drop_t (P := X.prog) (w := X.w) hh i2 b its2.toArray i x2)
        have e : min i i = i := Nat.min_self i
        exact G.stops s _ E (by rw [e]; exact ⟨t1, t2, t3, ⟨rfl, u1, p.isList⟩, ⟨rfl, u2, p2⟩⟩) fin
      · have G := GoesN.zip2 (elts := elts) (x1 := kk) (pos := tpos) D.s (drop_l (P := X.prog) (w := X.w) hh i1 a its.toArray i x1) (Draws.tuple (prog := X.prog) (w := X.w) hh i2 b nb its2.toArray)
        have e : min i its2.toArray.size = i := by omega
        exact G.stops s _ E (by rw [e]; exact ⟨t1, t2, t3, ⟨rfl, u1, p.isList⟩, ⟨u2, p2⟩⟩) fin
    · have h2 : ws.length ≤ i := hend.resolve_left h1
      have x2 : its2.toArray[i]? = none := Array.getElem?_eq_none (by omega)
      have G := GoesN.zip2 (elts := elts) (x1 := kk) (pos := tpos) D.s (Draws.list (prog := X.prog) (w := X.w) hh i1 a na its.toArray) (drop_t (P := X.prog) (w := X.w) hh i2 b its2.toArray i x2)
      have e : min its.toArray.size i = i := by omega
      exact G.stops s _ E (by rw [e]; exact ⟨t1, t2, t3, ⟨u1, p.isList⟩, ⟨rfl, u2, p2⟩⟩) fin
  self := fun A i s Q E st h => wpAny_pyIter_zip st.1 h
def iZipM (K : PySem.W.Frag) (ta : TA) : TI := fun σ H R => ta σ H fun vs H1 => ∃ a b us ws, vs = [.ref a, .ref b] ∧ SqL K H1 a us ∧ SqT K H1 b ws ∧ R (ItzM K a b) H1
theorem pi_zipM {X : Cx} {e e2 : Expr} {ta : TA} {p pos tpos : Pos} {elts : List Expr} {kk : Nat} (hg : Gl X "zip") (hm : X.mg "zip" = none) (ha : PA X [e, e2] ta)
    (hs : starEach [e, e2] X.env = (false, eval e X.env) :: starEach [e2] X.env := by rfl) (hpl : (backTo pos (starEach [e2] X.env)).any (·.1) = false := by rfl) :
    PI X (.Tuple elts kk tpos) (.Call (.Name "zip" p) [e, e2] [] pos) (iZipM X.K ta) := by
  refine ⟨fun pins s σ H R I h => Call_ (ld_blt I hg hm boot_zip (callWith_type1 (thn (ha.run pos pins s σ H _ I h) fun us s1 ⟨vs, H1, I1, r1, q1⟩ => ?_) hs hpl))⟩
  obtain ⟨a, b, xs, ys, rfl, hx, hy, q⟩ := q1
  cases r1 with
  | cons ra r1 =>
  cases r1 with
  | cons rb r1 =>
  cases r1
  cases ra
  cases rb
  obtain ⟨its, rv, p1, _⟩ := I1.list hx
  obtain ⟨its2, rv2, p2, _⟩ := I1.tuple hy
  have big : ∀ c, c ∈ [s1.heap.objs.size + 4, s1.heap.objs.size + 2, s1.heap.objs.size + 3, s1.heap.objs.size, s1.heap.objs.size + 1] → FpOk X pins H1 c := fun c hc => by
    have le : s1.heap.objs.size ≤ c := by
      simp only [List.mem_cons, List.not_mem_nil, or_false] at hc
      rcases hc with h | h | h | h | h <;> rw [h]
      · exact Nat.le_add_right _ _
      · exact Nat.le_add_right _ _
      · exact Nat.le_add_right _ _
      · exact Nat.le_refl _
      · exact Nat.le_add_right _ _
    exact I1.fpOk le (I1.hok.fresh le)
  have lt2 : b < s1.heap.objs.size := by obtain ⟨o, ho, _⟩ := id p2; exact Heap.lt_size ho
  have sep : SepM (s1.heap.objs.size + 4) (s1.heap.objs.size + 2) (s1.heap.objs.size + 3) s1.heap.objs.size (s1.heap.objs.size + 1) a b :=
    ⟨zip_sep2 (fp1 := [a]) (fp2 := [b]) (fun c hc => by rw [List.mem_singleton.mp hc]; exact p1.lt) (fun c hc => by rw [List.mem_singleton.mp hc]; exact lt2)⟩
  refine zip_begins2 (begins_list a its.toArray) (begins_tuple b its2.toArray) p1.isList p2 fun h' c1 c2 c3 c4 c5 _ hk => wpAny_pyIter_zip c1 ?_
  have J : Inv X pins σ H1 { s1 with heap := h' } := I1.kept (t' := s1.toks) hk
  exact ⟨s1.heap.objs.size + 4, [s1.heap.objs.size + 4, s1.heap.objs.size + 2, s1.heap.objs.size + 3, s1.heap.objs.size, s1.heap.objs.size + 1], _, _, H1, rfl, J, turn_zipM sep, ⟨c1, c2, ⟨_, _, c3⟩, ⟨_, c4, rfl, rfl⟩, ⟨_, c5, rfl, rfl⟩⟩, big, q⟩
end L3

set_option maxRecDepth 100000
namespace L3
open PySem L2

/-! ### the shadow syntax -/
inductive Ty1 where
  | bt (n : String) | own (c : Nm)
/-- what a for walks -/
inductive ItK where
  | seq | rng1 | rng2 | rng3 | enum | zip | zipM | items | values | rev
/-- built-in functions -/
inductive Bi where
  | len | all | any | sorted | list | dict | min | max | int | str | tuple | sum | abs | minD | maxD | lenSet | dict0
/-- built-in methods -/
inductive Bm where
  | append | get | pop | join | items | extend | setdefault | split | update | insert | clear | index | startswith | values | count | remove
inductive Tg where
  | nm (i : Nat) | tp (is : List Nat)

inductive SE where
  | non | bl (b : Bool) | int (i : Int) | str (x : Str)
  | var (i : Nat)
  | gl (n : Nm)
  | bin (op : Operator) (a b : SE)
  | cat (a b : SE)
  | neg (a : SE)
  | not (a : SE)
  | bop (k : Bool) (es : List SE)
  | cmp (op : CmpOp) (a b : SE)
  | chain (o1 o2 : CmpOp) (a b c : SE)
  | ix (a i : SE)
  | sl (a lo hi : SE)
  | rev (m : Bool) (a : SE)
  | lrng (m : Bool) (k : ItK) (es : List SE)
  | cmpK (ne : Bool) (a b : SE)
  | cmpS (ne : Bool) (a b : SE)
  | fld (a : SE) (f : Nm)
  | lst (m : Bool) (es : List SE)
  | tup (es : List SE)
  | dnew (m t : Bool)
  | dct (m : Bool) (ks : List PySem.Str) (vs : List SE)
  | comp (m : Bool) (tg : Tg) (k : ItK) (es : List SE) (c : SE) (e : SE)
  | call (m : Bool) (f : Nm) (es : List SE)
  | mk (m : Bool) (c : Nm) (es : List SE)
  | meth (m : Bool) (o : SE) (f : Nm) (es : List SE)
  | bi (m : Bool) (f : Bi) (es : List SE)
  | bm (m : Bool) (o : SE) (f : Bm) (es : List SE)
  | isi (e : SE) (tp : Bool) (ts : List Ty1)
  | isx (i : Nat) (tp : Bool) (ts : List Ty1)
  | fldx (i : Nat) (f : Nm)

inductive SS where
  | asg (i : Nat) (e : SE)
  | asgT (is : List Nat) (e : SE)
  | asgL (is : List Nat) (e : SE)
  | par (is : List Nat) (es : List SE)
  | asgF (o : SE) (f : Nm) (e : SE)
  | asgI (o i e : SE)
  | aug (i : Nat) (op : Operator) (e : SE)
  | augF (o : SE) (f : Nm) (op : Operator) (e : SE)
  | augI (o i : SE) (op : Operator) (e : SE)
  | exp (e : SE)
  | ret (e : SE)
  | retN
  | ifs (c : SE) (a b : List SS)
  | whl (c : SE) (b : List SS)
  | fors (tg : Tg) (k : ItK) (es : List SE) (b : List SS)
  | raise (c : Nm) (es : List SE)
  | tryx (b : List SS) (c : Nm) (n : Option Nat) (h : List SS)
  | pass | brk | cont
  | frz (i : Nat)

/-! ### helpers over data -/
abbrev Env := List (Option D)
structure XD where
  c : Nm
  fs : List (Nm × D)
abbrev QD := D → Mm → Prop
abbrev QX := XD → Mm → Prop
abbrev SpD := List D → Mm → QD → QX → Prop

def lk {α : Type} : List (Nm × α) → Nm → Option α
  | [], _ => none
  | (a, b) :: r, n => if a = n then some b else lk r n
def lk2 {α : Type} : List (Nm × Nm × α) → Nm → Nm → Option α
  | [], _, _ => none
  | (a, a', b) :: r, n, n' => if a = n ∧ a' = n' then some b else lk2 r n n'
/-- what a def's proof leans on -/
structure Tab where
  fn : List (Nm × SpD) := []
  mt : List (Nm × Nm × SpD) := []
  cl : List (Nm × SpD) := []
  gl : List (Nm × D) := []
  /-- classes and those above them, themselves too -/
  sub : List (Nm × List Nm) := []
  /-- classes and their fields -/
  fl : List (Nm × List Nm) := []
  /-- exception classes and their fields -/
  xc : List (Nm × List Nm) := []
  /-- classes of instances and those above them, themselves too -/
  isn : List (Nm × List Nm) := []
  /-- classes that isinstance may be asked of -/
  own : List Nm := []

def lstD (M : Mm) : D → Option (List D)
  | .lst ds => some ds
  | .ref a => match M a with
    | some (.lst ds) => some ds
    | _ => none
  | _ => none
def seqD (M : Mm) : D → Option (List D)
  | .lst ds => some ds
  | .ro _ ds => some ds
  | .tup ds => some ds
  | .ref a => match M a with
    | some (.lst ds) => some ds
    | _ => none
  | _ => none
def dctD (M : Mm) : D → Option (Bool × List (D × D))
  | .dct t ds => some (t, ds)
  | .ref a => match M a with
    | some (.dct t ds) => some (t, ds)
    | _ => none
  | _ => none
def insD (M : Mm) : D → Option (Nm × List (Nm × D))
  | .ins c fs => some (c, fs)
  | .ref a => match M a with
    | some (.ins c fs) => some (c, fs)
    | _ => none
  | _ => none
def truD (M : Mm) : D → Option Bool
  | .non => some false
  | .bl b => some b
  | .int i => some (i != 0)
  | .lst ds => some (!ds.isEmpty)
  | .ro _ ds => some (!ds.isEmpty)
  | .tup ds => some (!ds.isEmpty)
  | .ref a => match M a with
    | some (.lst ds) => some (!ds.isEmpty)
    | _ => none
  | _ => none
/-- data without places, to a depth -/
def pu : Nat → D → Bool
  | _, .non => true
  | _, .bl _ => true
  | _, .int _ => true
  | _, .str x => PyData.strOk x
  | _, .ref _ => false
  | n, .tup ds => decide (0 < n) && puL (n - 1) ds
  | n, .lst ds => decide (0 < n) && puL (n - 1) ds
  | _, .dct _ _ => false
  | _, .ins _ _ => false
  | _, .exc _ _ => false
  | _, .ro _ _ => false
where puL : Nat → List D → Bool
  | _, [] => true
  | n, d :: r => pu n d && puL n r
/-- Python's == over such -/
def eqv : D → D → Bool
  | .non, .non => true
  | .bl a, .bl b => a == b
  | .bl a, .int j => (if a then 1 else 0) == j
  | .int i, .bl b => i == (if b then 1 else 0)
  | .int i, .int j => i == j
  | .str x, .str y => x == y
  | .lst xs, .lst ys => eqvL xs ys
  | .tup xs, .tup ys => eqvL xs ys
  | _, _ => false
where eqvL : List D → List D → Bool
  | [], [] => true
  | x :: xs, y :: ys => eqv x y && eqvL xs ys
  | _, _ => false
/-- places read -/
def rs (M : Mm) : D → D
  | .non => .non
  | .bl b => .bl b
  | .int i => .int i
  | .str x => .str x
  | .ref a => match M a with
    | some (.lst ds) => .lst ds
    | _ => .ref a
  | .tup ds => .tup (rsL M ds)
  | .lst ds => .lst (rsL M ds)
  | .dct t kvs => .dct t kvs
  | .ins c fs => .ins c fs
  | .exc c fs => .exc c fs
  | .ro t ds => match t with
    | true => .tup (rsL M ds)
    | false => .lst (rsL M ds)
where rsL (M : Mm) : List D → List D
  | [] => []
  | d :: r => rs M d :: rsL M r
def flatD : D → Bool
  | .non => true
  | .bl _ => true
  | .int _ => true
  | .str _ => true
  | _ => false
def getF : List (Nm × D) → Nm → Option D := lk
def putF : List (Nm × D) → Nm → D → List (Nm × D)
  | [], n, d => [(n, d)]
  | (a, b) :: r, n, d => if a = n then (a, d) :: r else (a, b) :: putF r n d
/-- a key of a dict: an int, a text; with t a tuple of such -/
def flatKey : D → Bool
  | .int _ => true
  | .str _ => true
  | _ => false
def keyOk (t : Bool) : D → Bool
  | .int _ => !t
  | .str _ => !t
  | .tup ds => t && ds.all flatKey
  | _ => false
def eqKey : D → D → Bool
  | .int i, .int j => decide (i = j)
  | .str i, .str j => decide (i = j)
  | .tup xs, .tup ys => eqKeyL xs ys
  | _, _ => false
where eqKeyL : List D → List D → Bool
  | [], [] => true
  | x :: xs, y :: ys => eqKey x y && eqKeyL xs ys
  | _, _ => false
def getK : List (D × D) → D → Option D
  | [], _ => none
  | (a, b) :: r, k => if eqKey a k = true then some b else getK r k
def putK (kvs : List (D × D)) (k d : D) : List (D × D) :=
  if (kvs.any fun p => eqKey p.1 k) = true then kvs.map (fun p => if eqKey p.1 k = true then (p.1, d) else p) else kvs ++ [(k, d)]

/-! ### combinators that are run from the head on -/
def obn {α : Type} (o : Option α) (P : α → Prop) : Prop :=
  match o with
  | some a => P a
  | none => False
def br (b : Bool) (A B : Prop) : Prop :=
  match b with
  | true => A
  | false => B
def cnd (A B : Prop) : Prop := A ∧ B
theorem obn_some {α : Type} {a : α} {P : α → Prop} : obn (some a) P = P a := rfl
theorem obn_none {α : Type} {P : α → Prop} : obn none P = False := rfl
theorem br_true {A B : Prop} : br true A B = A := rfl
theorem br_false {A B : Prop} : br false A B = B := rfl
theorem cnd_true {B : Prop} : cnd True B = B := true_and B
theorem obn_congr {α : Type} {o o' : Option α} {P : α → Prop} (h : o = o') : obn o P = obn o' P := by rw [h]
theorem br_congr {b b' : Bool} {A B : Prop} (h : b = b') : br b A B = br b' A B := by rw [h]
theorem cnd_congr {A A' B : Prop} (h : A = A') : cnd A B = cnd A' B := by rw [h]

/-! ### what comes of values -/
/-- a new list: one that may change, or one that stands -/
def alL (m : Bool) (ds : List D) (M : Mm) (Q : QD) : Prop :=
  match m with
  | true => ∀ a, M a = none → Q (.ref a) (up M a (.lst ds))
  | false => Q (.lst ds) M
def alK (m t : Bool) (kvs : List (D × D)) (M : Mm) (Q : QD) : Prop :=
  match m with
  | true => ∀ a, M a = none → Q (.ref a) (up M a (.dct t kvs))
  | false => Q (.dct t kvs) M
theorem alL_false {ds : List D} {M : Mm} {Q : QD} : alL false ds M Q = Q (.lst ds) M := rfl
theorem alK_false {t : Bool} {ds : List (D × D)} {M : Mm} {Q : QD} : alK false t ds M Q = Q (.dct t ds) M := rfl
theorem alL_congr {m : Bool} {ds ds' : List D} {M M' : Mm} {Q : QD} (h : ds = ds') (h2 : M = M') : alL m ds M Q = alL m ds' M' Q := by rw [h, h2]
theorem alK_congr {m t : Bool} {ds ds' : List (D × D)} {M M' : Mm} {Q : QD} (h : ds = ds') (h2 : M = M') : alK m t ds M Q = alK m t ds' M' Q := by rw [h, h2]
/-- what a call tells: with m as it is, else it stands from now on -/
def frz1 (m : Bool) (d : D) (M : Mm) (Q : QD) : Prop :=
  match m with
  | true => Q d M
  | false => match d with
    | .ref a => match M a with
      | some (.lst ds) => Q (.lst ds) (del M a)
      | some (.dct t kvs) => Q (.dct t kvs) (del M a)
      | some (.ins c fs) => Q (.ins c fs) (del M a)
      | none => Q (.ref a) M
    | d => Q d M
theorem frz1_congr {m : Bool} {d d' : D} {M M' : Mm} {Q : QD} (h : d = d') (h2 : M = M') : frz1 m d M Q = frz1 m d' M' Q := by rw [h, h2]
theorem frz1_true {d : D} {M : Mm} {Q : QD} : frz1 true d M Q = Q d M := rfl
theorem frz1_non {M : Mm} {Q : QD} : frz1 false .non M Q = Q .non M := rfl
theorem frz1_bl {b : Bool} {M : Mm} {Q : QD} : frz1 false (.bl b) M Q = Q (.bl b) M := rfl
theorem frz1_int {b : Int} {M : Mm} {Q : QD} : frz1 false (.int b) M Q = Q (.int b) M := rfl
theorem frz1_str {b : PySem.Str} {M : Mm} {Q : QD} : frz1 false (.str b) M Q = Q (.str b) M := rfl
theorem frz1_lst {b : List D} {M : Mm} {Q : QD} : frz1 false (.lst b) M Q = Q (.lst b) M := rfl
theorem frz1_tup {b : List D} {M : Mm} {Q : QD} : frz1 false (.tup b) M Q = Q (.tup b) M := rfl
theorem frz1_dct {t : Bool} {b : List (D × D)} {M : Mm} {Q : QD} : frz1 false (.dct t b) M Q = Q (.dct t b) M := rfl
theorem frz1_ins {t : Nm} {b : List (Nm × D)} {M : Mm} {Q : QD} : frz1 false (.ins t b) M Q = Q (.ins t b) M := rfl
theorem frz1_up {a : Addr} {ds : List D} {M : Mm} {Q : QD} (h : M a = none) : frz1 false (.ref a) (up M a (.lst ds)) Q = Q (.lst ds) M := by
  simp [frz1, up_same, del_up h]
theorem frz1_upk {a : Addr} {t : Bool} {ds : List (D × D)} {M : Mm} {Q : QD} (h : M a = none) : frz1 false (.ref a) (up M a (.dct t ds)) Q = Q (.dct t ds) M := by
  simp [frz1, up_same, del_up h]
theorem frz1_upi {a : Addr} {c : Nm} {fs : List (Nm × D)} {M : Mm} {Q : QD} (h : M a = none) : frz1 false (.ref a) (up M a (.ins c fs)) Q = Q (.ins c fs) M := by
  simp [frz1, up_same, del_up h]
def intQ (x y : D) (P : Int → Int → Prop) : Prop :=
  match x with
  | .int i => match y with
    | .int j => P i j
    | _ => False
  | _ => False
theorem intQ_congr {x x' y y' : D} {P : Int → Int → Prop} (h : x = x') (h2 : y = y') : intQ x y P = intQ x' y' P := by rw [h, h2]
def catD (m : Bool) (x y : D) (M : Mm) (Q : QD) : Prop :=
  obn (lstD M x) fun xs => obn (lstD M y) fun ys => cnd (xs.length + ys.length ≤ sizeLine) (alL m (xs ++ ys) M Q)
theorem catD_congr {m : Bool} {x x' y y' : D} {M M' : Mm} {Q : QD} (h : x = x') (h2 : y = y') (h3 : M = M') : catD m x y M Q = catD m x' y' M' Q := by rw [h, h2, h3]
def addD (m : Bool) (x y : D) (M : Mm) (Q : QD) : Prop :=
  match x with
  | .int i => match y with
    | .int j => Q (.int (i + j)) M
    | _ => False
  | .str i => match y with
    | .str j => cnd (i.length + j.length ≤ sizeLine) (Q (.str (i ++ j)) M)
    | _ => False
  | .tup xs => match y with
    | .tup ys => cnd (xs.length + ys.length ≤ sizeLine) (Q (.tup (xs ++ ys)) M)
    | _ => False
  | .lst xs => catD m (.lst xs) y M Q
  | .ref a => catD m (.ref a) y M Q
  | _ => False
theorem addD_congr {m : Bool} {x x' y y' : D} {M M' : Mm} {Q : QD} (h : x = x') (h2 : y = y') (h3 : M = M') : addD m x y M Q = addD m x' y' M' Q := by rw [h, h2, h3]
def binD (m : Bool) (op : Operator) (x y : D) (M : Mm) (Q : QD) : Prop :=
  match op with
  | .Add => addD m x y M Q
  | .Sub => intQ x y fun i j => Q (.int (i - j)) M
  | .Mult => intQ x y fun i j => cnd (CMul i j ∨ CMulW i j) (Q (.int (i * j)) M)
  | .FloorDiv => intQ x y fun i j => cnd (CDivW i j) (Q (.int (i / j)) M)
  | .Mod => intQ x y fun i j => cnd (0 < j) (Q (.int (i % j)) M)
  | .Pow => intQ x y fun i j => cnd (CPow i j) (Q (.int (i ^ j.toNat)) M)
  | .BitAnd => intQ x y fun i j => Q (.int (Builtin.bitAnd i j)) M
  | .RShift => intQ x y fun i j => cnd (0 ≤ j) (Q (.int (i / 2 ^ j.toNat)) M)
  | _ => False
theorem binD_congr {m : Bool} {op : Operator} {x x' y y' : D} {M M' : Mm} {Q : QD} (h : x = x') (h2 : y = y') (h3 : M = M') : binD m op x y M Q = binD m op x' y' M' Q := by rw [h, h2, h3]
def eqQ (x y : D) (M : Mm) (Q : Bool → Prop) : Prop :=
  cnd (pu 60 (rs M (rs M x)) = true) (cnd (pu 60 (rs M (rs M y)) = true) (Q (eqv (rs M (rs M x)) (rs M (rs M y)))))
theorem eqQ_congr {x x' y y' : D} {M M' : Mm} {Q : Bool → Prop} (h : x = x') (h2 : y = y') (h3 : M = M') : eqQ x y M Q = eqQ x' y' M' Q := by rw [h, h2, h3]
def intsD : List D → Option (List Int)
  | [] => some []
  | .int i :: r => match intsD r with
    | some is => some (i :: is)
    | none => none
  | _ :: _ => none
def boolsD : List D → Option (List Bool)
  | [] => some []
  | .bl i :: r => match boolsD r with
    | some is => some (i :: is)
    | none => none
  | _ :: _ => none
theorem intsD_map (is : List Int) : intsD (is.map .int) = some is := by
  induction is with
  | nil => rfl
  | cons i r ih => simp [intsD, ih]
theorem boolsD_map (is : List Bool) : boolsD (is.map .bl) = some is := by
  induction is with
  | nil => rfl
  | cons i r ih => simp [boolsD, ih]
def ltQ (x y : D) (Q : Bool → Prop) : Prop :=
  match x with
  | .int i => match y with
    | .int j => Q (decide (i < j))
    | _ => False
  | .str i => match y with
    | .str j => Q (decide (i.cps.toList < j.cps.toList))
    | _ => False
  | .tup xs => match y with
    | .tup ys => obn (intsD xs) fun is => obn (intsD ys) fun js => Q (HT.lexLt is js)
    | _ => False
  | _ => False
theorem ltQ_congr {x x' y y' : D} {Q : Bool → Prop} (h : x = x') (h2 : y = y') : ltQ x y Q = ltQ x' y' Q := by rw [h, h2]
def inQ (x y : D) (M : Mm) (Q : Bool → Prop) : Prop :=
  match dctD M y with
  | some (t, kvs) => cnd (keyOk t x = true) (Q (getK kvs x).isSome)
  | none => match y with
    | .str t => match x with
      | .str s => Q (!(Builtin.Str.occurrences t s 0 t.length 1).isEmpty)
      | _ => False
    | .tup ds => cnd (flatD x = true) (cnd (ds.all flatD = true) (Q (ds.any fun z => eqv z x)))
    | .ro true ds => cnd (flatD x = true) (cnd (ds.all flatD = true) (Q (ds.any fun z => eqv z x)))
    | y => obn (seqD M y) fun ds => cnd (pu 59 (rs M x) = true) (cnd (pu 59 (.lst ds) = true) (Q (ds.any fun z => eqv z (rs M x))))
theorem inQ_congr {x x' y y' : D} {M M' : Mm} {Q : Bool → Prop} (h : x = x') (h2 : y = y') (h3 : M = M') : inQ x y M Q = inQ x' y' M' Q := by rw [h, h2, h3]
def isQ (x y : D) (Q : Bool → Prop) : Prop :=
  match y with
  | .non => match x with
    | .non => Q true
    | _ => Q false
  | .bl b => match x with
    | .bl a => Q (decide (a = b))
    | _ => False
  | _ => False
theorem isQ_congr {x x' y y' : D} {Q : Bool → Prop} (h : x = x') (h2 : y = y') : isQ x y Q = isQ x' y' Q := by rw [h, h2]
def cmpD (op : CmpOp) (x y : D) (M : Mm) (Q : Bool → Prop) : Prop :=
  match op with
  | .Eq => eqQ x y M Q
  | .NotEq => eqQ x y M fun b => Q (!b)
  | .Lt => ltQ x y Q
  | .LtE => intQ x y fun i j => Q (decide (i ≤ j))
  | .Gt => intQ x y fun i j => Q (decide (j < i))
  | .GtE => intQ x y fun i j => Q (decide (j ≤ i))
  | .Is => isQ x y Q
  | .IsNot => isQ x y fun b => Q (!b)
  | .In => inQ x y M Q
  | .NotIn => inQ x y M fun b => Q (!b)
theorem cmpD_congr {op : CmpOp} {x x' y y' : D} {M M' : Mm} {Q : Bool → Prop} (h : x = x') (h2 : y = y') (h3 : M = M') : cmpD op x y M Q = cmpD op x' y' M' Q := by rw [h, h2, h3]
def ixD (x i : D) (M : Mm) (Q : D → Prop) : Prop :=
  match dctD M x with
  | some (t, kvs) => cnd (keyOk t i = true) (obn (getK kvs i) Q)
  | none => match i with
    | .int n => match x with
      | .str z => cnd (z.length ≤ sizeLine) (obn (atI z.cps.toList n) fun c => Q (.str ⟨#[c]⟩))
      | x => obn (seqD M x) fun ds => obn (atI ds n) Q
    | _ => False
theorem ixD_congr {x x' y y' : D} {M M' : Mm} {Q : D → Prop} (h : x = x') (h2 : y = y') (h3 : M = M') : ixD x y M Q = ixD x' y' M' Q := by rw [h, h2, h3]
def isNon : SE → Bool
  | .non => true
  | _ => false
def endD (s : SE) (d : D) : Option (Option Int) :=
  match isNon s with
  | true => some none
  | false => match d with
    | .int i => some (some i)
    | _ => none
def cut {α : Type} (xs : List α) (lo hi : Option Int) : List α := (xs.drop (HT.sIx xs.length 0 lo)).take (HT.sIx xs.length xs.length hi - HT.sIx xs.length 0 lo)
def slD (m : Bool) (x : D) (lo hi : Option Int) (M : Mm) (Q : QD) : Prop :=
  match x with
  | .str z => cnd (z.length ≤ sizeLine) (Q (.str ⟨(cut z.cps.toList lo hi).toArray⟩) M)
  | .tup ds => Q (.tup (cut ds lo hi)) M
  | .ro true _ => False
  | x => obn (seqD M x) fun ds => alL m (cut ds lo hi) M Q
def revD (m : Bool) (x : D) (M : Mm) (Q : QD) : Prop :=
  match x with
  | .tup _ => False
  | .ro true _ => False
  | x => obn (seqD M x) fun ds => alL m ds.reverse M Q
theorem revD_congr {m : Bool} {x x' : D} {M M' : Mm} {Q : QD} (h : x = x') (h3 : M = M') : revD m x M Q = revD m x' M' Q := by rw [h, h3]
/-- dicts at places that may change, alike -/
def dkD (M : Mm) : D → Option (List (D × D))
  | .ref a => match M a with
    | some (.dct false kvs) => some kvs
    | _ => none
  | _ => none
def SameK (ks ls : List (D × D)) : Prop := ks.length = ls.length ∧ ∀ p ∈ ks, getK ls p.1 = some p.2 ∧ flatD p.2 = true
def eqK (x y : D) (M : Mm) (P : Prop) : Prop := obn (dkD M x) fun ks => obn (dkD M y) fun ls => cnd (SameK ks ls) P
theorem eqK_congr {x x' y y' : D} {M M' : Mm} {P : Prop} (h : x = x') (h2 : y = y') (h3 : M = M') : eqK x y M P = eqK x' y' M' P := by rw [h, h2, h3]
/-- lists of the very same places -/
def SameR (xs ys : List D) : Prop := xs = ys ∧ ∀ d ∈ xs, ∃ a, d = .ref a
def eqS (x y : D) (M : Mm) (P : Prop) : Prop := obn (lstD M x) fun xs => obn (lstD M y) fun ys => cnd (SameR xs ys) P
theorem eqS_congr {x x' y y' : D} {M M' : Mm} {P : Prop} (h : x = x') (h2 : y = y') (h3 : M = M') : eqS x y M P = eqS x' y' M' P := by rw [h, h2, h3]
def sumI : List Int → Int
  | [] => 0
  | i :: r => i + sumI r
def minI : List Int → Int
  | [] => 0
  | [i] => i
  | i :: j :: r => min i (minI (j :: r))
def maxI : List Int → Int
  | [] => 0
  | [i] => i
  | i :: j :: r => max i (maxI (j :: r))
/-- pairs of ints -/
def prs : List D → Option (List (Int × Int))
  | [] => some []
  | .tup [.int i, .int j] :: r => match prs r with
    | some is => some ((i, j) :: is)
    | none => none
  | _ :: _ => none
def leP (p q : Int × Int) : Bool := decide (p.1 < q.1) || (decide (p.1 = q.1) && decide (p.2 ≤ q.2))
def prD (p : Int × Int) : D := .tup [.int p.1, .int p.2]
theorem prs_map (ps : List (Int × Int)) : prs (ps.map prD) = some ps := by
  induction ps with
  | nil => rfl
  | cons i r ih => simp [prs, prD, ih]
/-- len -/
def lenD (M : Mm) (x : D) : Option Int :=
  match dctD M x with
  | some (_, kvs) => some (kvs.length : Int)
  | none => match x with
    | .str z => if z.length ≤ sizeLine then some (z.length : Int) else none
    | x => match seqD M x with
      | some ds => some (ds.length : Int)
      | none => none
def srtD (ds : List D) : Option (List D) :=
  match intsD ds with
  | some is => some ((is.mergeSort fun a b => decide (a ≤ b)).map .int)
  | none => match prs ds with
    | some ps => some ((ps.mergeSort leP).map prD)
    | none => none
def biD (m : Bool) (f : Bi) (xs : List D) (M : Mm) (Q : QD) : Prop :=
  match f with
  | .len => match xs with
    | [x] => obn (lenD M x) fun n => Q (.int n) M
    | _ => False
  | .all => match xs with
    | [x] => obn (lstD M x) fun ds => obn (boolsD ds) fun bs => Q (.bl (bs.all id)) M
    | _ => False
  | .any => match xs with
    | [x] => obn (lstD M x) fun ds => obn (boolsD ds) fun bs => Q (.bl (bs.any id)) M
    | _ => False
  | .sum => match xs with
    | [x] => obn (lstD M x) fun ds => obn (intsD ds) fun is => Q (.int (sumI is)) M
    | _ => False
  | .min => match xs with
    | [x] => obn (lstD M x) fun ds => obn (intsD ds) fun is => cnd (0 < is.length) (Q (.int (minI is)) M)
    | [x, y] => intQ x y fun i j => Q (.int (if j < i then j else i)) M
    | _ => False
  | .max => match xs with
    | [x] => obn (lstD M x) fun ds => obn (intsD ds) fun is => cnd (0 < is.length) (Q (.int (maxI is)) M)
    | [x, y] => intQ x y fun i j => Q (.int (if j > i then j else i)) M
    | _ => False
  | .abs => match xs with
    | [.int i] => Q (.int (if i < 0 then -i else i)) M
    | _ => False
  | .int => match xs with
    | [.int i] => Q (.int i) M
    | [.bl b] => Q (.int (if b then 1 else 0)) M
    | [.str x] => cnd (x.length ≤ 640) (obn (PySem.intText? x) fun n => Q (.int n) M)
    | _ => False
  | .str => match xs with
    | [.int i] => cnd (i.natAbs.log2 < 1920) (Q (.str (toString i)) M)
    | _ => False
  | .list => match xs with
    | [x] => match dctD M x with
      | some (_, kvs) => alL m (kvs.map (·.1)) M Q
      | none => obn (seqD M x) fun ds => alL m ds M Q
    | _ => False
  | .tuple => match xs with
    | [.ro true _] => False
    | [x] => obn (seqD M x) fun ds => Q (.tup ds) M
    | _ => False
  | .dict => match xs with
    | [x] => obn (dctD M x) fun p => cnd (p.1 = false) (alK m false p.2 M Q)
    | _ => False
  | .sorted => match xs with
    | [x] => obn (lstD M x) fun ds => obn (srtD ds) fun es => alL m es M Q
    | _ => False
  | .minD => False
  | .maxD => False
  | .lenSet => False
  | .dict0 => False
theorem biD_congr {m : Bool} {f : Bi} {x x' : List D} {M M' : Mm} {Q : QD} (h : x = x') (h3 : M = M') : biD m f x M Q = biD m f x' M' Q := by rw [h, h3]
/-- a list at a place that may change, a dict -/
def celL (M : Mm) : D → Option (Addr × List D)
  | .ref a => match M a with
    | some (.lst ds) => some (a, ds)
    | _ => none
  | _ => none
/-- whose method it is -/
def rcvB (f : Bm) (M : Mm) (o : D) : Bool :=
  match f with
  | .append => (lstD M o).isSome
  | .extend => (lstD M o).isSome
  | .pop => (lstD M o).isSome
  | .insert => (lstD M o).isSome
  | .clear => (lstD M o).isSome
  | .index => (lstD M o).isSome
  | .count => (lstD M o).isSome
  | .remove => (lstD M o).isSome
  | .get => (dctD M o).isSome
  | .items => (dctD M o).isSome
  | .setdefault => (dctD M o).isSome
  | .update => (dctD M o).isSome
  | .values => (dctD M o).isSome
  | .join => strB o
  | .split => strB o
  | .startswith => strB o
where strB : D → Bool
  | .str _ => true
  | _ => false
/-- a built-in method: the receiver, what is handed in -/
def bmD (m : Bool) (f : Bm) (o : D) (xs : List D) (M : Mm) (Q : QD) : Prop :=
  match f with
  | .append => match xs with
    | [x] => obn (celL M o) fun p => cnd (p.2.length < sizeLine) (Q .non (up M p.1 (.lst (p.2 ++ [x]))))
    | _ => False
  | .extend => match xs with
    | [x] => obn (celL M o) fun p => obn (lstD M x) fun es => cnd (p.2.length + es.length ≤ sizeLine) (Q .non (up M p.1 (.lst (p.2 ++ es))))
    | _ => False
  | .clear => match xs with
    | [] => obn (celL M o) fun p => Q .non (up M p.1 (.lst []))
    | _ => False
  | .pop => match xs with
    | [] => obn (celL M o) fun p => obn p.2[p.2.length - 1]? fun d => Q d (up M p.1 (.lst p.2.dropLast))
    | [.int i] => obn (celL M o) fun p => cnd (-(2 ^ 63) ≤ i ∧ i < 2 ^ 63) (obn (ixN p.2.length i) fun k => obn p.2[k]? fun d => Q d (up M p.1 (.lst (p.2.eraseIdx k))))
    | _ => False
  | .get => match xs with
    | [k] => obn (dctD M o) fun p => cnd (keyOk p.1 k = true) (Q ((getK p.2 k).getD .non) M)
    | [k, d] => obn (dctD M o) fun p => cnd (keyOk p.1 k = true) (Q ((getK p.2 k).getD d) M)
    | _ => False
  | _ => False
theorem bmD_congr {m : Bool} {f : Bm} {o o' : D} {x x' : List D} {M M' : Mm} {Q : QD} (h2 : o = o') (h : x = x') (h3 : M = M') : bmD m f o x M Q = bmD m f o' x' M' Q := by rw [h, h2, h3]
def rngL (lo : Int) (n : Nat) : List D := (List.range n).map fun i => .int (lo + (i : Nat))
def enumFrom : Nat → List D → List D
  | _, [] => []
  | n, d :: r => .tup [.int (n : Int), d] :: enumFrom (n + 1) r
def zipL : List D → List D → List D
  | x :: xs, y :: ys => .tup [x, y] :: zipL xs ys
  | _, _ => []
/-- what a walk tells, in order -/
def itD (k : ItK) (xs : List D) (M : Mm) : Option (List D) :=
  match k with
  | .seq => match xs with
    | [x] => seqD M x
    | _ => none
  | .rng1 => match xs with
    | [.int n] => if n < 2 ^ 62 ∧ -(2 ^ 62) ≤ n then some (rngL 0 n.toNat) else none
    | _ => none
  | .rng2 => match xs with
    | [.int a, .int b] => if (-(2 ^ 62) ≤ a ∧ a < 2 ^ 62) ∧ -(2 ^ 62) ≤ b ∧ b < 2 ^ 62 then some (rngL a (b - a).toNat) else none
    | _ => none
  | .enum => match xs with
    | [x] => match lstD M x with
      | some ds => some (enumFrom 0 ds)
      | none => none
    | _ => none
  | .zip => match xs with
    | [x, y] => match lstD M x with
      | some ds => match lstD M y with
        | some es => some (zipL ds es)
        | none => none
      | none => none
    | _ => none
  | .zipM => match xs with
    | [x, .tup es] => match lstD M x with
      | some ds => some (zipL ds es)
      | none => none
    | _ => none
  | .items => match xs with
    | [.dct _ kvs] => some (kvs.map fun p => .tup [p.1, p.2])
    | _ => none
  | .values => match xs with
    | [.dct _ kvs] => some (kvs.map (·.2))
    | _ => none
  | .rev => match xs with
    | [x] => match lstD M x with
      | some ds => some ds.reverse
      | none => none
    | _ => none
  | .rng3 => none
def setAll : List Nat → List D → Env → Option Env
  | [], [], env => some env
  | i :: is, d :: ds, env => setAll is ds (env.set i (some d))
  | _, _, _ => none
def bindT (tg : Tg) (d : D) (M : Mm) (env : Env) : Option Env :=
  match tg with
  | .nm i => some (env.set i (some d))
  | .tp is => match d with
    | .tup ds => setAll is ds env
    | _ => none
def insT (T : Tab) (n : Nm) : Option Ty1 := match lk T.isn n with
  | some _ => some (.own n)
  | none => none
def tyD (T : Tab) (M : Mm) : D → Option Ty1
  | .non => some (.bt "NoneType")
  | .bl _ => some (.bt "bool")
  | .int _ => some (.bt "int")
  | .str _ => some (.bt "str")
  | .lst _ => some (.bt "list")
  | .ro t _ => some (.bt (if t = true then "tuple" else "list"))
  | .tup _ => some (.bt "tuple")
  | .dct false _ => some (.bt "dict")
  | .dct true _ => none
  | .ref a => match M a with
    | some (.lst _) => some (.bt "list")
    | some (.dct _ _) => some (.bt "dict")
    | some (.ins n _) => insT T n
    | none => none
  | .ins n _ => insT T n
  | .exc _ _ => none
def isT (T : Tab) (a : Ty1) (t : Ty1) : Option Bool :=
  match a with
  | .bt x => match t with
    | .bt n => some (decide (x = n) || (decide (x = "bool") && decide (n = "int")))
    | .own _ => some false
  | .own n => match t with
    | .bt x => if x = "ValueError" then none else some false
    | .own c => match lk T.isn n with
      | some l => some (decide (c ∈ l))
      | none => none
/-- of an exception -/
def isXT (T : Tab) (n : Nm) (t : Ty1) : Option Bool :=
  match t with
  | .bt x => some (decide (x = "ValueError"))
  | .own c => match lk T.sub n with
    | some l => some (decide (c ∈ l))
    | none => none
def anyT (f : Ty1 → Option Bool) : List Ty1 → Option Bool
  | [] => some false
  | t :: r => match f t with
    | some true => some true
    | some false => anyT f r
    | none => none
def isA (T : Tab) (M : Mm) (d : D) (ts : List Ty1) : Option Bool := match tyD T M d with
  | some a => anyT (isT T a) ts
  | none => none
def ownOk (T : Tab) (ts : List Ty1) : Bool := ts.all fun t => match t with
  | .bt _ => true
  | .own n => decide (n ∈ T.own)
def excE (env : Env) (i : Nat) : Option (Nm × List (Nm × D)) :=
  match env[i]? with
  | some (some (.exc n fs)) => some (n, fs)
  | _ => none
/-- a comprehension's walk -/
def compL (chk : Mm → Prop) (wc : Env → Mm → (D → Mm → Prop) → Prop) (we : Env → Mm → (D → Mm → Prop) → Prop) (tg : Tg) (env : Env) : List D → List D → Mm → (List D → Mm → Prop) → Prop
  | [], acc, M, Q => chk M ∧ Q acc M
  | x :: xs, acc, M, Q => chk M ∧ obn (bindT tg x M env) fun env' => wc env' M fun b M1 => obn (truD M1 b) fun k =>
      br k (we env' M1 fun d M2 => compL chk wc we tg env xs (acc ++ [d]) M2 Q) (compL chk wc we tg env xs acc M1 Q)
/-- a contract used -/
def ap (sp : SpD) (ds : List D) (M : Mm) (Q : QD) (E : QX) : Prop := sp ds M Q E
theorem ap_congr {sp : SpD} {x x' : List D} {M M' : Mm} {Q : QD} {E : QX} (h : x = x') (h3 : M = M') : ap sp x M Q E = ap sp x' M' Q E := by rw [h, h3]
/-- a comprehension's and a loop's walk, not run by itself -/
def compQ (chk : List D → Mm → Prop) (wc : Env → Mm → (D → Mm → Prop) → Prop) (we : Env → Mm → (D → Mm → Prop) → Prop) (tg : Tg) (env : Env) (items : Option (List D)) (M : Mm) (Q : List D → Mm → Prop) : Prop :=
  obn items fun items => cnd (items.length ≤ sizeLine) (compL (chk items) wc we tg env items [] M Q)
theorem compQ_congr {chk : List D → Mm → Prop} {wc : Env → Mm → (D → Mm → Prop) → Prop} {we : Env → Mm → (D → Mm → Prop) → Prop} {tg : Tg} {env env' : Env} {items items' : Option (List D)} {M M' : Mm} {Q : List D → Mm → Prop}
    (h1 : env = env') (h : items = items') (h3 : M = M') : compQ chk wc we tg env items M Q = compQ chk wc we tg env' items' M' Q := by rw [h, h1, h3]

def varE (env : Env) (i : Nat) : Option D :=
  match env[i]? with
  | some (some d) => some d
  | _ => none
def negD : D → Option Int
  | .int i => some (-i)
  | _ => none
def fldD (M : Mm) (x : D) (f : Nm) : Option D :=
  match insD M x with
  | some (_, fs) => getF fs f
  | none => none
mutual
def wE (T : Tab) : SE → Env → Mm → QD → QX → Prop
  | .non, _, M, Q, _ => Q .non M
  | .bl b, _, M, Q, _ => Q (.bl b) M
  | .int i, _, M, Q, _ => Q (.int i) M
  | .str x, _, M, Q, _ => Q (.str x) M
  | .var i, env, M, Q, _ => obn (varE env i) fun d => Q d M
  | .gl n, _, M, Q, _ => obn (lk T.gl n) fun d => Q d M
  | .bin op a b, env, M, Q, E => wE T a env M (fun x M1 => wE T b env M1 (fun y M2 => binD false op x y M2 Q) E) E
  | .cat a b, env, M, Q, E => wE T a env M (fun x M1 => wE T b env M1 (fun y M2 => binD true .Add x y M2 Q) E) E
  | .neg a, env, M, Q, E => wE T a env M (fun x M1 => obn (negD x) fun i => Q (.int i) M1) E
  | .not a, env, M, Q, E => wE T a env M (fun x M1 => obn (truD M1 x) fun b => Q (.bl (!b)) M1) E
  | .bop k es, env, M, Q, E => wBop T k es env M Q E
  | .cmp op a b, env, M, Q, E => wE T a env M (fun x M1 => wE T b env M1 (fun y M2 => cmpD op x y M2 fun r => Q (.bl r) M2) E) E
  | .chain o1 o2 a b c, env, M, Q, E => wE T a env M (fun x M1 => wE T b env M1 (fun y M2 => cmpD o1 x y M2 fun r =>
      br r (wE T c env M2 (fun z M3 => cmpD o2 y z M3 fun r2 => Q (.bl r2) M3) E) (Q (.bl false) M2)) E) E
  | .ix a i, env, M, Q, E => wE T a env M (fun x M1 => wE T i env M1 (fun y M2 => ixD x y M2 fun v => Q v M2) E) E
  | .sl a lo hi, env, M, Q, E => wE T a env M (fun x M1 => wE T lo env M1 (fun y M2 => obn (endD lo y) fun l => wE T hi env M2 (fun z M3 => obn (endD hi z) fun h => slD false x l h M3 Q) E) E) E
  | .rev m a, env, M, Q, E => wE T a env M (fun x M1 => revD m x M1 Q) E
  | .lrng m k es, env, M, Q, E => wEs T es env M (fun ds M1 => obn (itD k ds M1) fun xs => cnd (xs.length ≤ 1000000) (alL m xs M1 Q)) E
  | .cmpK ne a b, env, M, Q, E => wE T a env M (fun x M1 => wE T b env M1 (fun y M2 => eqK x y M2 (Q (.bl (!ne)) M2)) E) E
  | .cmpS ne a b, env, M, Q, E => wE T a env M (fun x M1 => wE T b env M1 (fun y M2 => eqS x y M2 (Q (.bl (!ne)) M2)) E) E
  | .fld a f, env, M, Q, E => wE T a env M (fun x M1 => obn (fldD M1 x f) fun v => Q v M1) E
  | .lst m es, env, M, Q, E => wEs T es env M (fun ds M1 => cnd (ds.length ≤ 1000) (alL m ds M1 Q)) E
  | .tup es, env, M, Q, E => wEs T es env M (fun ds M1 => cnd (ds.length ≤ 1000) (Q (.tup ds) M1)) E
  | .dnew m t, _, M, Q, _ => alK m t [] M Q
  | .dct m ks vs, env, M, Q, E => wEs T vs env M (fun ds M1 => alK m false ((ks.map D.str).zip ds) M1 Q) E
  | .comp m tg k es c e, env, M, Q, E => wEs T es env M (fun ds M1 => compQ (fun items M' => itD k ds M' = some items) (fun env M Q => wE T c env M Q (fun _ _ => False)) (fun env M Q => wE T e env M Q (fun _ _ => False)) tg env (itD k ds M1) M1 fun acc M2 => alL m acc M2 Q) E
  | .call m f es, env, M, Q, E => obn (lk T.fn f) fun sp => wEs T es env M (fun ds M1 => ap sp ds M1 (fun d M2 => frz1 m d M2 Q) E) E
  | .mk m c es, env, M, Q, E => obn (lk T.cl c) fun sp => wEs T es env M (fun ds M1 => ap sp ds M1 (fun d M2 => frz1 m d M2 Q) E) E
  | .meth m o f es, env, M, Q, E => wE T o env M (fun x M1 => obn (insD M1 x) fun p => obn (lk2 T.mt p.1 f) fun sp => wEs T es env M1 (fun ds M2 => ap sp (x :: ds) M2 (fun d M3 => frz1 m d M3 Q) E) E) E
  | .bi m f es, env, M, Q, E => wEs T es env M (fun ds M1 => biD m f ds M1 Q) E
  | .bm m o f es, env, M, Q, E => wE T o env M (fun x M1 => cnd (rcvB f M1 x = true) (wEs T es env M1 (fun ds M2 => bmD m f x ds M2 Q) E)) E
  | .isi e tp ts, env, M, Q, E => cnd (ownOk T ts = true) (wE T e env M (fun x M1 => obn (isA T M1 x ts) fun b => Q (.bl b) M1) E)
  | .isx i tp ts, env, M, Q, _ => cnd (ownOk T ts = true) (obn (excE env i) fun p => cnd (p.2 = []) (obn (anyT (isXT T p.1) ts) fun b => Q (.bl b) M))
  | .fldx i f, env, M, Q, _ => obn (excE env i) fun p => obn (getF p.2 f) fun v => Q v M
def wEs (T : Tab) : List SE → Env → Mm → (List D → Mm → Prop) → QX → Prop
  | [], _, M, Q, _ => Q [] M
  | e :: r, env, M, Q, E => wE T e env M (fun d M1 => wEs T r env M1 (fun ds M2 => Q (d :: ds) M2) E) E
def wBop (T : Tab) (k : Bool) : List SE → Env → Mm → QD → QX → Prop
  | [], _, _, _, _ => False
  | [e], env, M, Q, E => wE T e env M Q E
  | e :: e' :: r, env, M, Q, E => wE T e env M (fun x M1 => obn (truD M1 x) fun b => br (b == k) (wBop T k (e' :: r) env M1 Q E) (Q x M1)) E
end

/-! ### statements -/
structure KD where
  nx : Env → Mm → Prop
  rt : D → Mm → Prop
  bk : Env → Mm → Prop := fun _ _ => False
  ct : Env → Mm → Prop := fun _ _ => False
  ex : XD → Env → Mm → Prop
def setI (o i d : D) (M : Mm) (Q : Mm → Prop) : Prop :=
  match o with
  | .ref a => match M a with
    | some (.dct t kvs) => cnd (keyOk t i = true) (cnd (kvs.length < sizeLine) (Q (up M a (.dct t (putK kvs i d)))))
    | some (.lst ds) => match i with
      | .int n => obn (ixN ds.length n) fun k => Q (up M a (.lst (ds.set k d)))
      | _ => False
    | _ => False
  | _ => False
theorem setI_congr {o o' i i' d d' : D} {M M' : Mm} {Q : Mm → Prop} (h : o = o') (h1 : i = i') (h2 : d = d') (h3 : M = M') : setI o i d M Q = setI o' i' d' M' Q := by rw [h, h1, h2, h3]
def augD (op : Operator) (x y : D) (M : Mm) (Q : QD) : Prop :=
  match op with
  | .Add => match x with
    | .int i => match y with
      | .int j => Q (.int (i + j)) M
      | _ => False
    | _ => False
  | .Sub => intQ x y fun i j => Q (.int (i - j)) M
  | _ => False
theorem augD_congr {op : Operator} {x x' y y' : D} {M M' : Mm} {Q : QD} (h : x = x') (h2 : y = y') (h3 : M = M') : augD op x y M Q = augD op x' y' M' Q := by rw [h, h2, h3]
def forL (chk : Mm → Prop) (body : KD → Env → Mm → Prop) (tg : Tg) (K : KD) : List D → Env → Mm → Prop
  | [], env, M => chk M ∧ K.nx env M
  | x :: xs, env, M => chk M ∧ obn (bindT tg x M env) fun env' =>
      body { nx := forL chk body tg K xs, rt := K.rt, bk := K.nx, ct := forL chk body tg K xs, ex := K.ex } env' M
def whN (c : Env → Mm → QD → Prop) (body : KD → Env → Mm → Prop) (K : KD) : Nat → Env → Mm → Prop
  | 0, _, _ => False
  | n + 1, env, M => c env M fun d M' => obn (truD M' d) fun b =>
      br b (body { nx := whN c body K n, rt := K.rt, bk := K.nx, ct := whN c body K n, ex := K.ex } env M') (K.nx env M')
/-- a loop, not run by itself -/
def forQ (chk : List D → Mm → Prop) (body : KD → Env → Mm → Prop) (tg : Tg) (K : KD) (items : Option (List D)) (env : Env) (M : Mm) : Prop :=
  obn items fun items => forL (chk items) body tg K items env M
theorem forQ_congr {chk : List D → Mm → Prop} {body : KD → Env → Mm → Prop} {tg : Tg} {K : KD} {items items' : Option (List D)} {env env' : Env} {M M' : Mm}
    (h : items = items') (h1 : env = env') (h3 : M = M') : forQ chk body tg K items env M = forQ chk body tg K items' env' M' := by rw [h, h1, h3]
def whQ (c : Env → Mm → QD → Prop) (body : KD → Env → Mm → Prop) (K : KD) (env : Env) (M : Mm) : Prop := ∃ n, whN c body K n env M
theorem whQ_congr {c : Env → Mm → QD → Prop} {body : KD → Env → Mm → Prop} {K : KD} {env env' : Env} {M M' : Mm}
    (h1 : env = env') (h3 : M = M') : whQ c body K env M = whQ c body K env' M' := by rw [h1, h3]
def insR (M : Mm) : D → Option (Addr × Nm × List (Nm × D))
  | .ref a => match M a with
    | some (.ins c fs) => some (a, c, fs)
    | _ => none
  | _ => none
def tupD : D → Option (List D)
  | .tup ds => some ds
  | _ => none
def KD.out (K : KD) (i : Nat) : KD := { nx := fun env M => K.nx (env.set i none) M, rt := K.rt, bk := fun env M => K.bk (env.set i none) M, ct := fun env M => K.ct (env.set i none) M, ex := K.ex }
def KD.sui (K : KD) : KD := { nx := K.nx, rt := K.rt, bk := K.bk, ct := K.ct, ex := fun _ _ _ => False }
def frzQ (i : Nat) (env : Env) (M : Mm) (Q : Env → Mm → Prop) : Prop :=
  obn (varE env i) fun d => frz1 false d M fun d' M' => Q (env.set i (some d')) M'
mutual
def wS (T : Tab) : SS → KD → Env → Mm → Prop
  | .asg i e, K, env, M => wE T e env M (fun d M' => K.nx (env.set i (some d)) M') (fun x M' => K.ex x env M')
  | .asgT is e, K, env, M => wE T e env M (fun d M' => obn (tupD d) fun ds => obn (setAll is ds env) fun env' => K.nx env' M') (fun x M' => K.ex x env M')
  | .asgL is e, K, env, M => wE T e env M (fun d M' => obn (lstD M' d) fun ds => obn (setAll is ds env) fun env' => K.nx env' M') (fun x M' => K.ex x env M')
  | .par is es, K, env, M => wEs T es env M (fun ds M' => obn (setAll is ds env) fun env' => K.nx env' M') (fun x M' => K.ex x env M')
  | .asgF o f e, K, env, M => wE T e env M (fun d M1 => wE T o env M1 (fun x M2 => obn (insR M2 x) fun p => cnd (p.2.2.length < 1000) (obn (lk T.fl p.2.1) fun l => cnd (f ∈ l) (K.nx env (up M2 p.1 (.ins p.2.1 (putF p.2.2 f d)))))) (fun x M' => K.ex x env M')) (fun x M' => K.ex x env M')
  | .asgI o i e, K, env, M => wE T e env M (fun d M1 => wE T o env M1 (fun x M2 => wE T i env M2 (fun y M3 => setI x y d M3 fun M' => K.nx env M') (fun x M' => K.ex x env M')) (fun x M' => K.ex x env M')) (fun x M' => K.ex x env M')
  | .aug i op e, K, env, M => obn (varE env i) fun x => wE T e env M (fun y M1 => augD op x y M1 fun z M' => K.nx (env.set i (some z)) M') (fun x M' => K.ex x env M')
  | .augF o f op e, K, env, M => wE T o env M (fun x M1 => obn (insR M1 x) fun p => cnd (p.2.2.length < 1000) (obn (getF p.2.2 f) fun d =>
      wE T e env M1 (fun y M2 => cnd (M2 p.1 = some (.ins p.2.1 p.2.2)) (augD op d y M2 fun z M' => K.nx env (up M' p.1 (.ins p.2.1 (putF p.2.2 f z))))) (fun x M' => K.ex x env M'))) (fun x M' => K.ex x env M')
  | .augI o i op e, K, env, M => False
  | .exp e, K, env, M => wE T e env M (fun _ M' => K.nx env M') (fun x M' => K.ex x env M')
  | .ret e, K, env, M => wE T e env M K.rt (fun x M' => K.ex x env M')
  | .retN, K, _, M => K.rt .non M
  | .ifs c a b, K, env, M => wE T c env M (fun d M' => obn (truD M' d) fun t => br t (wSs T a K env M') (wSs T b K env M')) (fun x M' => K.ex x env M')
  | .whl c b, K, env, M => whQ (fun env M Q => wE T c env M Q (fun x M' => K.ex x env M')) (fun K env M => wSs T b K env M) K env M
  | .fors tg k es b, K, env, M => wEs T es env M (fun ds M1 => forQ (fun items M' => itD k ds M' = some items) (fun K env M => wSs T b K env M) tg K (itD k ds M1) env M1) (fun x M' => K.ex x env M')
  | .raise c es, K, env, M => wEs T es env M (fun ds M' => obn (lk T.xc c) fun fs => K.ex ⟨c, fs.zip ds⟩ env M') (fun x M' => K.ex x env M')
  | .tryx b c n h, K, env, M => cnd ((lk T.sub c).isSome = true) (wSs T b { nx := K.nx, rt := K.rt, bk := K.bk, ct := K.ct, ex := (fun x env' M' => obn (lk T.sub x.c) fun l => br (decide (c ∈ l)) (match n with
        | some i => cnd (i < env'.length) (wSs T h (K.out i).sui (env'.set i (some (.exc x.c x.fs))) M')
        | none => wSs T h K.sui env' M') (K.ex x env' M')) } env M)
  | .pass, K, env, M => K.nx env M
  | .brk, K, env, M => K.bk env M
  | .cont, K, env, M => K.ct env M
  | .frz i, K, env, M => frzQ i env M K.nx
def wSs (T : Tab) : List SS → KD → Env → Mm → Prop
  | [], K, env, M => K.nx env M
  | s :: r, K, env, M => wS T s { nx := fun env M => wSs T r K env M, rt := K.rt, bk := K.bk, ct := K.ct, ex := K.ex } env M
end
theorem wE_congr {T : Tab} {e : SE} {env env' : Env} {M M' : Mm} {Q : QD} {E : QX} (h : env = env') (h2 : M = M') : wE T e env M Q E = wE T e env' M' Q E := by rw [h, h2]
theorem wEs_congr {T : Tab} {e : List SE} {env env' : Env} {M M' : Mm} {Q : List D → Mm → Prop} {E : QX} (h : env = env') (h2 : M = M') : wEs T e env M Q E = wEs T e env' M' Q E := by rw [h, h2]
theorem wBop_congr {T : Tab} {k : Bool} {e : List SE} {env env' : Env} {M M' : Mm} {Q : QD} {E : QX} (h : env = env') (h2 : M = M') : wBop T k e env M Q E = wBop T k e env' M' Q E := by rw [h, h2]
theorem wS_congr {T : Tab} {s : SS} {K : KD} {env env' : Env} {M M' : Mm} (h : env = env') (h2 : M = M') : wS T s K env M = wS T s K env' M' := by rw [h, h2]
theorem wSs_congr {T : Tab} {s : List SS} {K : KD} {env env' : Env} {M M' : Mm} (h : env = env') (h2 : M = M') : wSs T s K env M = wSs T s K env' M' := by rw [h, h2]
/-- behind a def's end: what is told may be seen otherwise, what isn't needed is let go -/
def Frz (c : Cfg) (d : D) (M : Mm) (d' : D) (M' : Mm) : Prop :=
  ∀ Z H v, Cells (c.z Z) H M → Rep (c.z Z) H M v d → Cells (c.z Z) H M' ∧ Rep (c.z Z) H M' v d' ∧ ∀ a, M a = none → M' a = none
theorem Frz.sub {c : Cfg} {d : D} {M M' : Mm} (h : Sub M' M) : Frz c d M d M' := fun Z H v ok r => ⟨cells_sub ok h, r.stp (stp_sub fun _ n => h.none n), fun _ n => h.none n⟩
/-- what a def's body must show -/
def fnK (c : Cfg) (Q : QD) (E : QX) : KD where
  nx := fun _ M => ∃ d' M', Frz c .non M d' M' ∧ Q d' M'
  rt := fun d M => ∃ d' M', Frz c d M d' M' ∧ Q d' M'
  ex := fun x _ M => ∃ M', Sub M' M ∧ E x M'
def env0 (n : Nat) (ds : List D) : Env := ds.map some ++ List.replicate (n - ds.length) none
end L3

set_option maxRecDepth 100000
set_option maxHeartbeats 4000000
namespace L3
open PySem L2

/-! ### the shadow of a text -/
def visB (sc : Scope) (x : PySem.Str) : Bool := match sc.names.lookup x with
  | some .local => true
  | some .cell => true
  | some .free => true
  | _ => false
def locB (sc : Scope) (x : PySem.Str) : Bool := match sc.names.lookup x with
  | some .local => true
  | some .cell => true
  | _ => false
def glB (sc : Scope) (x : PySem.Str) : Bool := match sc.names.lookup x with
  | some .globalImplicit => true
  | _ => false
def nmB (x : PySem.Str) : Bool := !(x == ("__debug__" : PySem.Str)) && !(x == ("__classdict__" : PySem.Str)) && !(x == ("__name__" : PySem.Str))
def supB : Expr → Bool
  | .Call (.Name x _) [] [] _ => !(x == ("super" : PySem.Str))
  | _ => true
def Bi.s : Bi → PySem.Str
  | .len => "len" | .all => "all" | .any => "any" | .sorted => "sorted" | .list => "list" | .dict => "dict" | .min => "min" | .max => "max" | .int => "int" | .str => "str"
  | .tuple => "tuple" | .sum => "sum" | .abs => "abs" | .minD => "min" | .maxD => "max" | .lenSet => "len" | .dict0 => "dict"
def Bm.s : Bm → PySem.Str
  | .append => "append" | .get => "get" | .pop => "pop" | .join => "join" | .items => "items" | .extend => "extend" | .setdefault => "setdefault" | .split => "split"
  | .update => "update" | .insert => "insert" | .clear => "clear" | .index => "index" | .startswith => "startswith" | .values => "values" | .count => "count" | .remove => "remove"
/-- built-in names that the texts use -/
def bnames : List PySem.Str := ["len", "all", "any", "sorted", "list", "dict", "min", "max", "int", "str", "tuple", "sum", "abs", "isinstance", "range", "enumerate", "zip", "reversed", "set", "bool", "ValueError"]
def isTru : SE → Bool
  | .bl true => true
  | _ => false
def mNm (N : List PySem.Str) (sc : Scope) (i : Nat) (e : Expr) : Bool := match e with
  | .Name x _ => decide (N[i]? = some x) && locB sc x
  | _ => false
def mNms (N : List PySem.Str) (sc : Scope) : List Nat → List Expr → Bool
  | [], [] => true
  | i :: is, e :: es => mNm N sc i e && mNms N sc is es
  | _, _ => false
def mTg (N : List PySem.Str) (sc : Scope) (tg : Tg) (e : Expr) : Bool := match tg with
  | .nm i => mNm N sc i e
  | .tp is => match e with
    | .Tuple es _ _ => mNms N sc is es && decide is.Nodup
    | _ => false
def tgIx : Tg → List Nat
  | .nm i => [i]
  | .tp is => is
def ownOf (N : List PySem.Str) : Tg → List (PySem.Str × Nat)
  | .nm i => [(N.getD i "", i)]
  | .tp is => is.map fun i => (N.getD i "", i)
def tyN : Ty1 → PySem.Str
  | .bt n => PySem.Str.ofString n
  | .own c => c.s
/-- types that a value may have; that isinstance is asked of -/
def btn : List String := ["NoneType", "bool", "int", "str", "list", "tuple", "dict"]
def btt : List String := ["bool", "int", "str", "list", "tuple", "dict", "ValueError"]
def bttB : Ty1 → Bool
  | .bt n => decide (n ∈ btt)
  | .own _ => true
def mTy1 (sc : Scope) (t : Ty1) (e : Expr) : Bool := match e with
  | .Name x _ => decide (x = tyN t) && glB sc x && nmB x && bttB t
  | _ => false
def mTys (sc : Scope) : List Ty1 → List Expr → Bool
  | [], [] => true
  | t :: ts, e :: es => mTy1 sc t e && mTys sc ts es
  | _, _ => false
def mTy (sc : Scope) (tp : Bool) (ts : List Ty1) (e : Expr) : Bool := match tp with
  | false => mTys sc ts [e]
  | true => match e with
    | .Tuple es _ _ => mTys sc ts es && decide (ts.length ≤ 1000)
    | _ => false
def bmB (f : Bm) (n : Nat) : Bool := match f with
  | .append => n == 1
  | .extend => n == 1
  | .clear => n == 0
  | .pop => n == 0 || n == 1
  | .get => n == 1 || n == 2
  | _ => false
def mKs : List PySem.Str → List (Option Expr) → Bool
  | [], [] => true
  | k :: ks, some (.Constant (.str y) _ _) :: es => decide (y = k) && mKs ks es
  | _, _ => false
def isTp : Tg → Bool
  | .tp _ => true
  | .nm _ => false
/-- what a walk's source is handed -/
def itArgs (k : ItK) (tg : Tg) (sc : Scope) (it : Expr) : Option (List Expr) := match k with
  | .seq => some [it]
  | .rng1 => match it with
    | .Call (.Name f _) [b] [] _ => if (decide (f = "range") && glB sc f) = true then some [b] else none
    | _ => none
  | .rng2 => match it with
    | .Call (.Name f _) [b, d] [] _ => if (decide (f = "range") && glB sc f) = true then some [b, d] else none
    | _ => none
  | .enum => match it with
    | .Call (.Name f _) [b] [] _ => if (decide (f = "enumerate") && glB sc f && isTp tg) = true then some [b] else none
    | _ => none
  | .zip => match it with
    | .Call (.Name f _) [b, d] [] _ => if (decide (f = "zip") && glB sc f && isTp tg) = true then some [b, d] else none
    | _ => none
  | .zipM => match it with
    | .Call (.Name f _) [b, d] [] _ => if (decide (f = "zip") && glB sc f && isTp tg) = true then some [b, d] else none
    | _ => none
  | _ => none
mutual
def mE (N : List PySem.Str) : SE → Scope → Expr → Bool
  | .non, _, e => (match e with
    | .Constant .none _ _ => true
    | _ => false)
  | .bl b, _, e => (match e with
    | .Constant (.bool b') _ _ => decide (b' = b)
    | _ => false)
  | .int i, _, e => (match e with
    | .Constant (.int j) _ _ => decide (j = i)
    | _ => false)
  | .str x, _, e => (match e with
    | .Constant (.str y) _ _ => decide (y = x)
    | _ => false)
  | .var i, sc, e => (match e with
    | .Name x _ => decide (N[i]? = some x) && visB sc x && nmB x
    | _ => false)
  | .gl n, sc, e => (match e with
    | .Name x _ => decide (x = n.s) && glB sc x && nmB x
    | _ => false)
  | .bin op a b, sc, e => (match e with
    | .BinOp l o r _ => decide (o = op) && mE N a sc l && mE N b sc r
    | _ => false)
  | .cat a b, sc, e => (match e with
    | .BinOp l o r _ => decide (o = .Add) && mE N a sc l && mE N b sc r
    | _ => false)
  | .neg a, sc, e => (match e with
    | .UnaryOp .USub x _ => mE N a sc x
    | _ => false)
  | .not a, sc, e => (match e with
    | .UnaryOp .Not x _ => mE N a sc x
    | _ => false)
  | .bop k es, sc, e => (match e with
    | .BoolOp o vs _ => decide (o = if k = true then .And else .Or) && mEs N es sc vs
    | _ => false)
  | .cmp op a b, sc, e => (match e with
    | .Compare l [o] [r] _ => decide (o = op) && mE N a sc l && mE N b sc r
    | _ => false)
  | .chain o1 o2 a b c, sc, e => (match e with
    | .Compare l [p, q] [r, s] _ => decide (p = o1) && decide (q = o2) && mE N a sc l && mE N b sc r && mE N c sc s
    | _ => false)
  | .ix a i, sc, e => (match e with
    | .Subscript v j _ => mE N a sc v && mE N i sc j
    | _ => false)
  | .sl a lo hi, sc, e => (match e with
    | .Subscript v (.Slice l u none _) _ => mE N a sc v && (match l with
        | none => isNon lo
        | some l => !isNon lo && mE N lo sc l) && (match u with
        | none => isNon hi
        | some u => !isNon hi && mE N hi sc u)
    | _ => false)
  | .rev _ a, sc, e => (match e with
    | .Subscript v (.Slice none none (some (.UnaryOp .USub (.Constant (.int 1) _ _) _)) _) _ => mE N a sc v
    | _ => false)
  | .lrng _ k es, sc, e => (match e with
    | .Call (.Name f _) [it] [] _ => decide (f = "list") && glB sc f && (match k with
      | .rng1 => match it with
        | .Call (.Name g _) [b] [] _ => decide (g = "range") && glB sc g && mEs N es sc [b]
        | _ => false
      | .rng2 => match it with
        | .Call (.Name g _) [b, d] [] _ => decide (g = "range") && glB sc g && mEs N es sc [b, d]
        | _ => false
      | _ => false)
    | _ => false)
  | .cmpK ne a b, sc, e => (match e with
    | .Compare l [o] [r] _ => decide (o = if ne = true then .NotEq else .Eq) && mE N a sc l && mE N b sc r
    | _ => false)
  | .cmpS ne a b, sc, e => (match e with
    | .Compare l [o] [r] _ => decide (o = if ne = true then .NotEq else .Eq) && mE N a sc l && mE N b sc r
    | _ => false)
  | .fld a f, sc, e => (match e with
    | .Attribute v x _ => decide (x = f.s) && supB v && mE N a sc v
    | _ => false)
  | .lst _ es, sc, e => (match e with
    | .List vs _ => mEs N es sc vs
    | _ => false)
  | .tup es, sc, e => (match e with
    | .Tuple vs _ _ => mEs N es sc vs
    | _ => false)
  | .dnew _ _, _, e => (match e with
    | .Dict [] [] _ => true
    | _ => false)
  | .dct _ ks vs, sc, e => (match e with
    | .Dict ks' vs' _ => mKs ks ks' && decide (ks.Nodup) && decide (0 < ks.length) && decide (ks.length ≤ 15) && decide (ks.length = vs.length) && mEs N vs sc vs'
    | _ => false)
  | .comp _ tg k es c x, sc, e => (match e with
    | .ListComp elt [⟨t, it, ifs, a⟩] scope _ => decide (a = 0) && mTg N scope tg t && blkC N sc scope (ownOf N tg) && (match itArgs k tg sc it with
        | some as => mEs N es sc as
        | none => false) && (match ifs with
        | [] => isTru c
        | [y] => mE N c (relS scope sc) y
        | _ => false) && mE N x (relS scope sc) elt
    | _ => false)
  | .call _ f es, sc, e => (match e with
    | .Call (.Name x _) as [] _ => decide (x = f.s) && glB sc x && nmB x && mEs N es sc as
    | _ => false)
  | .mk _ f es, sc, e => (match e with
    | .Call (.Name x _) as [] _ => decide (x = f.s) && glB sc x && nmB x && mEs N es sc as
    | _ => false)
  | .meth _ o f es, sc, e => (match e with
    | .Call (.Attribute v x p) as [] cp => decide (x = f.s) && supB v && (p.endLine == cp.line) && decide (as.length < 29) && mE N o sc v && mEs N es sc as
    | _ => false)
  | .bi _ f es, sc, e => (match e with
    | .Call (.Name x _) as [] _ => decide (x = f.s) && glB sc x && nmB x && mEs N es sc as
    | _ => false)
  | .bm _ o f es, sc, e => (match e with
    | .Call (.Attribute v x p) as [] cp => bmB f es.length && decide (x = f.s) && supB v && (p.endLine == cp.line) && decide (as.length < 29) && mE N o sc v && mEs N es sc as
    | _ => false)
  | .isx i tp ts, sc, e => (match e with
    | .Call (.Name f _) [.Name x _, t] [] _ => decide (f = "isinstance") && glB sc f && decide (N[i]? = some x) && visB sc x && nmB x && mTy sc tp ts t
    | _ => false)
  | .fldx i f, sc, e => (match e with
    | .Attribute (.Name x _) y _ => decide (y = f.s) && decide (N[i]? = some x) && visB sc x && nmB x
    | _ => false)
  | .isi x tp ts, sc, e => (match e with
    | .Call (.Name f _) [y, t] [] _ => decide (f = "isinstance") && glB sc f && mE N x sc y && mTy sc tp ts t
    | _ => false)
def mEs (N : List PySem.Str) : List SE → Scope → List Expr → Bool
  | [], _, es => (match es with
    | [] => true
    | _ => false)
  | s :: ss, sc, es => (match es with
    | e :: es => mE N s sc e && mEs N ss sc es
    | _ => false)
end
/-- no star, no set, no slice, nothing that is not read here -/
def fine : Expr → Bool
  | .Starred _ _ => false
  | .Set _ _ _ => false
  | .Slice _ _ _ _ => false
  | .NamedExpr _ _ _ => false
  | .IfExp _ _ _ _ => false
  | _ => true
theorem mE_fine {N : List PySem.Str} {s : SE} {sc : Scope} {e : Expr} (h : mE N s sc e = true) : fine e = true := by
  cases e with
  | Starred _ _ => cases s <;> simp [mE] at h
  | Set _ _ _ => cases s <;> simp [mE] at h
  | Slice _ _ _ _ => cases s <;> simp [mE] at h
  | NamedExpr _ _ _ => cases s <;> simp [mE] at h
  | IfExp _ _ _ _ => cases s <;> simp [mE] at h
  | _ => rfl
theorem star_cons {e : Expr} {es : List Expr} {env : PySem.Env} (h : fine e = true) : starEach (e :: es) env = (false, eval e env) :: starEach es env := by
  cases e <;> first | rfl | simp [fine] at h
theorem mEs_any {N : List PySem.Str} : ∀ {ss : List SE} {sc : Scope} {es : List Expr}, mEs N ss sc es = true → ∀ (pos : Pos) (env : PySem.Env), (backTo pos (starEach es env)).any (·.1) = false
  | [], sc, [], _ => fun _ _ => rfl
  | [], sc, e :: es, h => by simp [mEs] at h
  | s :: ss, sc, [], h => by simp [mEs] at h
  | s :: ss, sc, e :: es, h => fun pos env => by
    simp only [mEs, Bool.and_eq_true] at h
    rw [star_cons (mE_fine h.1)]
    simp only [backTo, List.map_cons, List.any_cons, Bool.false_or]
    exact mEs_any h.2 pos env
theorem nobe {op : CmpOp} {b : Expr} (h : fine b = true) : behindInMarks op b = false := by
  cases b <;> first | rfl | simp [fine] at h
theorem plainIx {b : Expr} (h : fine b = true) : PlainIx b := fun o i => by
  cases b <;> first | rfl | simp [fine] at h
theorem noSet {e : Expr} {env : PySem.Env} (h : fine e = true) (x : Value) : foldedSetIterable e env x = pure x := by
  cases e <;> first | rfl | simp [fine] at h
theorem attrB {e : Expr} {f : PySem.Str} {env : PySem.Env} (h : supB e = true) : attributeBase e f env (eval e env) = eval e env := by
  unfold attributeBase
  split
  · next id p q =>
    have e : (id != ("super" : PySem.Str)) = true := by simpa [supB] using h
    simp only [e, Bool.true_or]
    rfl
  · rfl
/-- a test that is a value's truth -/
def tstB : Expr → Bool
  | .UnaryOp .Not _ _ => false
  | .BoolOp _ _ _ => false
  | .IfExp _ _ _ _ => false
  | .Compare _ _ _ _ => false
  | _ => true
theorem tst_of {e : Expr} {env : PySem.Env} (h : tstB e = true) (whole : Sem Value) : isTrue e env whole = (do let v ← whole; standAt e.pos; holding [v] (truthy v)) := by
  cases e with
  | UnaryOp op x p => cases op <;> first | rfl | simp [tstB] at h
  | _ => first | rfl | simp [tstB] at h
end L3

set_option maxRecDepth 100000
set_option maxHeartbeats 4000000
namespace L3
open PySem L2

/-! ### representation: lists, reading -/
section
variable {c : Cfg} {H H' : Hp} {M M' : Mm}
theorem Reps.len : ∀ {vs : List V} {ds : List D}, Reps c H M vs ds → vs.length = ds.length
  | _, _, .nil => rfl
  | _, _, .cons _ r => by simp [Reps.len r]
theorem RepK.len : ∀ {vs : List (Key × V)} {ds : List (D × D)}, RepK c H M vs ds → vs.length = ds.length
  | _, _, .nil => rfl
  | _, _, .cons _ r => by simp [RepK.len r]
theorem RepT.len : ∀ {vs : List (List Key × V)} {ds : List (D × D)}, RepT c H M vs ds → vs.length = ds.length
  | _, _, .nil => rfl
  | _, _, .cons _ _ r => by simp [RepT.len r]
theorem Reps.get : ∀ {vs : List V} {ds : List D}, Reps c H M vs ds → ∀ {i : Nat} {d : D}, ds[i]? = some d → ∃ v, vs[i]? = some v ∧ Rep c H M v d
  | _, _, .nil, i, d, h => by simp at h
  | _, _, .cons a r, 0, d, h => by simp at h; subst h; exact ⟨_, rfl, a⟩
  | _, _, .cons a r, i + 1, d, h => by
    obtain ⟨v, h1, h2⟩ := Reps.get r (i := i) (d := d) (by simpa using h)
    exact ⟨v, by simpa using h1, h2⟩
theorem Reps.get' : ∀ {vs : List V} {ds : List D}, Reps c H M vs ds → ∀ {i : Nat} {v : V}, vs[i]? = some v → ∃ d, ds[i]? = some d ∧ Rep c H M v d
  | _, _, .nil, i, d, h => by simp at h
  | _, _, .cons a r, 0, d, h => by simp at h; subst h; exact ⟨_, rfl, a⟩
  | _, _, .cons a r, i + 1, d, h => by
    obtain ⟨v, h1, h2⟩ := Reps.get' r (i := i) (v := d) (by simpa using h)
    exact ⟨v, by simpa using h1, h2⟩
theorem Reps.append : ∀ {vs : List V} {ds : List D} {ws : List V} {es : List D}, Reps c H M vs ds → Reps c H M ws es → Reps c H M (vs ++ ws) (ds ++ es)
  | _, _, _, _, .nil, h => h
  | _, _, _, _, .cons a r, h => .cons a (Reps.append r h)
theorem Reps.take : ∀ {vs : List V} {ds : List D} (n : Nat), Reps c H M vs ds → Reps c H M (vs.take n) (ds.take n)
  | _, _, 0, _ => by simp; exact .nil
  | _, _, n + 1, .nil => .nil
  | _, _, n + 1, .cons a r => .cons a (Reps.take n r)
theorem Reps.drop : ∀ {vs : List V} {ds : List D} (n : Nat), Reps c H M vs ds → Reps c H M (vs.drop n) (ds.drop n)
  | _, _, 0, h => h
  | _, _, n + 1, .nil => .nil
  | _, _, n + 1, .cons a r => Reps.drop n r
theorem Reps.set : ∀ {vs : List V} {ds : List D} (n : Nat) {v : V} {d : D}, Rep c H M v d → Reps c H M vs ds → Reps c H M (vs.set n v) (ds.set n d)
  | _, _, _, _, _, _, .nil => .nil
  | _, _, 0, _, _, h, .cons a r => .cons h r
  | _, _, n + 1, _, _, h, .cons a r => .cons a (Reps.set n h r)
theorem Reps.erase : ∀ {vs : List V} {ds : List D} (n : Nat), Reps c H M vs ds → Reps c H M (vs.eraseIdx n) (ds.eraseIdx n)
  | _, _, _, .nil => .nil
  | _, _, 0, .cons a r => r
  | _, _, n + 1, .cons a r => .cons a (Reps.erase n r)
theorem Reps.one {v : V} {d : D} (h : Rep c H M v d) : Reps c H M [v] [d] := .cons h .nil
theorem Reps.mapI : ∀ (is : List Int), Reps c H M (is.map V.int) (is.map D.int)
  | [] => .nil
  | i :: r => .cons (.int i) (Reps.mapI r)

/-- what is read as a list, a tuple, a dict -/
theorem KL.sq {a : Addr} {vs : List V} {P : Prop} (h : Rd H a (.lst vs) ∧ P ∨ KL c.K a vs) : SqL c.K H a vs := h.imp (fun q => q.1) id
theorem rep_seq (ok : Cells c H M) {v : V} {d : D} {ds : List D} (r : Rep c H M v d) (h : seqD M d = some ds) :
    ∃ a vs, v = .ref a ∧ (SqL c.K H a vs ∨ SqT c.K H a vs) ∧ vs.length ≤ sizeLine ∧ Reps c H M vs ds := by
  cases r with
  | lst h1 n z q => cases h; exact ⟨_, _, rfl, .inl (SqL.of h1), z, q⟩
  | tup h1 n z q => cases h; exact ⟨_, _, rfl, .inr (SqT.of h1), z, q⟩
  | roL h1 z q => cases h; exact ⟨_, _, rfl, .inl (KL.sq h1), z, q⟩
  | roT h1 z q => cases h; exact ⟨_, _, rfl, .inr (.inr h1), z, q⟩
  | ref a =>
    cases e : M a with
    | none => simp [seqD, e] at h
    | some x =>
      cases x with
      | lst es =>
        simp [seqD, e] at h; subst h
        cases ok.at' a _ e with
        | lst h1 z q => exact ⟨a, _, rfl, .inl (SqL.of h1), z, q⟩
      | dct t k => simp [seqD, e] at h
      | ins n f => simp [seqD, e] at h
  | _ => cases h
theorem rep_lst (ok : Cells c H M) {v : V} {d : D} {ds : List D} (r : Rep c H M v d) (h : lstD M d = some ds) :
    ∃ a vs, v = .ref a ∧ H a = some (.lst vs) ∧ vs.length ≤ sizeLine ∧ Reps c H M vs ds := by
  cases r with
  | lst h1 n z q => cases h; exact ⟨_, _, rfl, h1, z, q⟩
  | ref a =>
    cases e : M a with
    | none => simp [lstD, e] at h
    | some x =>
      cases x with
      | lst es =>
        simp [lstD, e] at h; subst h
        cases ok.at' a _ e with
        | lst h1 z q => exact ⟨a, _, rfl, h1, z, q⟩
      | dct t k => simp [lstD, e] at h
      | ins n f => simp [lstD, e] at h
  | _ => cases h
theorem rep_dct (ok : Cells c H M) {v : V} {d : D} {t : Bool} {ds : List (D × D)} (r : Rep c H M v d) (h : dctD M d = some (t, ds)) :
    ∃ a, v = .ref a ∧ ((t = false ∧ ∃ ks, Rd H a (.dK ks) ∧ ks.length ≤ sizeLine ∧ RepK c H M ks ds) ∨ (t = true ∧ ∃ ks, Rd H a (.dT ks) ∧ ks.length ≤ sizeLine ∧ RepT c H M ks ds)) := by
  cases r with
  | dK h1 n z q => cases h; exact ⟨_, rfl, .inl ⟨rfl, _, h1, z, q⟩⟩
  | dT h1 n z q => cases h; exact ⟨_, rfl, .inr ⟨rfl, _, h1, z, q⟩⟩
  | ref a =>
    cases e : M a with
    | none => simp [dctD, e] at h
    | some x =>
      cases x with
      | dct t k =>
        simp [dctD, e] at h; obtain ⟨rfl, rfl⟩ := h
        cases ok.at' a _ e with
        | dK h1 z q => exact ⟨a, rfl, .inl ⟨rfl, _, .inl h1, z, q⟩⟩
        | dT h1 z q => exact ⟨a, rfl, .inr ⟨rfl, _, .inl h1, z, q⟩⟩
      | lst k => simp [dctD, e] at h
      | ins n f => simp [dctD, e] at h
  | _ => cases h
theorem rep_ins (ok : Cells c H M) {v : V} {d : D} {n : Nm} {fs : List (Nm × D)} (r : Rep c H M v d) (h : insD M d = some (n, fs)) :
    ∃ a C dx vs, v = .ref a ∧ H a = some (.ins C dx vs) ∧ c.icls n = some C ∧ (∀ p ∈ fs, p.1 ∈ c.fl n) ∧ RepF c H M vs fs := by
  cases r with
  | ins h1 m z k q => cases h; exact ⟨_, _, _, _, rfl, h1, z, k, q⟩
  | ref a =>
    cases e : M a with
    | none => simp [insD, e] at h
    | some x =>
      cases x with
      | ins n' f =>
        simp [insD, e] at h; obtain ⟨rfl, rfl⟩ := h
        cases ok.at' a _ e with
        | ins h1 z k q => exact ⟨a, _, _, _, rfl, h1, z, k, q⟩
      | lst k => simp [insD, e] at h
      | dct t f => simp [insD, e] at h
  | _ => cases h
end

/-! ### contexts -/
def nmS_inj : Prop := ∀ a b : Nm, a.s = b.s → a = b
/-- an exception's data -/
def XRep (c : Cfg) (H : Hp) (M : Mm) (cls : Value) (d : Option Addr) (x : XD) : Prop :=
  ∃ C, c.cls x.c = some C ∧ cls = .ref C ∧ ((d = none ∧ x.fs = []) ∨ ∃ a vs, d = some a ∧ H a = some (.xd vs) ∧ M a = none ∧ RepF c H M vs x.fs ∧ x.fs ≠ [])
/-- a contract as HandS has it -/
def toSp (c : Cfg) (sp : SpD) : Sp := fun vs H Q E => ∃ Z ds M Qd Ed, Reps (c.z Z) H M vs ds ∧ Cells (c.z Z) H M ∧ sp ds M Qd Ed ∧
  (∀ v H' d M', Stp H M H' M' → Cells (c.z Z) H' M' → Rep (c.z Z) H' M' v d → Qd d M' → Q v H') ∧
  (∀ cls dd H' x M', Stp H M H' M' → Cells (c.z Z) H' M' → XRep (c.z Z) H' M' cls dd x → Ed x M' → E cls dd H')
/-- a def that keeps its contract -/
def FnE (X : Cx) (c : Cfg) (n : Nm) (sp : SpD) : Prop := ∃ f fd k ps, FnOk X.prog X.w X.K X.mg X.base (CX X.prog X.w) k f fd ps (toSp c sp) ∧ Room k X.A ∧
  X.mg n.s = some (.ref f) ∧ PySem.W.keepIn X.K (.ref f) = true ∧ Binds X.K fd ps []
def MtE (X : Cx) (c : Cfg) (n m : Nm) (sp : SpD) : Prop := ∀ C, c.icls n = some C → ∃ f fd k ps, FnOk X.prog X.w X.K X.mg X.base (CX X.prog X.w) k f fd ps (toSp c sp) ∧ Room k X.A ∧
  Meth X.K C m.s f ∧ Binds X.K fd ps []
/-- a class whose instances are made: __init__'s contract gives the making's -/
def MkE (X : Cx) (c : Cfg) (n : Nm) (sp : SpD) : Prop := (∃ C f fd k ps spI, c.icls n = some C ∧ FnOk X.prog X.w X.K X.mg X.base (CX X.prog X.w) k f fd ps (toSp c spI) ∧ Room (k + 1) X.A ∧
  Mk X.K C f ∧ X.mg n.s = some (.ref C) ∧ Binds X.K fd ps [] ∧
  ∀ ds M Q E, sp ds M Q E → ∀ x, M x = none → spI (.ref x :: ds) (up M x (.ins n [])) (fun r M' => r = .non ∧ ∃ d2 M2, Frz c (.ref x) M' d2 M2 ∧ Q d2 M2) E) ∨
  (∃ C, c.icls n = some C ∧ PySem.W.makesIn X.K C = true ∧ PySem.W.findIn X.K (.ref C) "__init__" = some (some (.builtin "object.__init__")) ∧ PySem.W.keepIn X.K (.ref C) = true ∧ X.mg n.s = some (.ref C) ∧ ∀ ds M Q E, sp ds M Q E → ds = [] ∧ ∀ x, M x = none → Q (.ref x) (up M x (.ins n [])))
/-- a constant of the module -/
def GlE (X : Cx) (c : Cfg) (n : Nm) (d : D) : Prop := ∃ u v, X.mg n.s = some u ∧ RelV v u ∧ ∀ Z H M, Rep (c.z Z) H M v d
def xcB (T : Tab) (n : Nm) : Bool := (lk T.sub n).isSome
structure COk (c : Cfg) (T : Tab) (N : List PySem.Str) (sc : Scope) (X : Cx) (W : WX) : Prop where
  N : X.N = N
  nd : X.N.Nodup
  sc : X.env.scope = sc
  calm : c.hot = false → X.calm = true ∧ c.cur = none
  K : X.K = c.K
  bi : ∀ n ∈ bnames, X.mg n = none
  tk : Takes X W
  hu : X.A.units + 70 < cLine
  fn : c.hot = false → ∀ n sp, lk T.fn n = some sp → FnE X c n sp
  mt : c.hot = false → ∀ n m sp, lk2 T.mt n m = some sp → MtE X c n m sp
  cl : c.hot = false → ∀ n sp, lk T.cl n = some sp → MkE X c n sp
  gl : ∀ n d, lk T.gl n = some d → GlE X c n d
  cls : ∀ n C, c.icls n = some C → Cls X.K C
  fl : ∀ n C, c.icls n = some C → ((c.fl n).map Nm.s).Nodup ∧ ∀ f ∈ c.fl n, NoAttr X.K C f.s
  flT : ∀ n l, lk T.fl n = some l → c.fl n = l
  sub : ∀ n l, lk T.sub n = some l → (c.cls n).isSome = true
  own : ∀ n ∈ T.own, (c.cls n).isSome = true
  icl : ∀ n C, c.icls n = some C → (lk T.isn n).isSome = true → c.cls n = some C
  clsG : ∀ n C, c.cls n = some C → X.mg n.s = some (.ref C)
  isO : ∀ n l, lk T.isn n = some l → ∀ C, c.cls n = some C → C8.InsC X.K C ∧ ∀ m C', c.cls m = some C' → PySem.W.kitOne X.K (.ref C) (.ref C') = some (decide (m ∈ l))
  isI : ∀ m C', c.cls m = some C' → (∀ b ∈ btn, PySem.W.kitOne X.K (.type b) (.ref C') = some false) ∧ ∀ b ∈ btt, PySem.W.kitOne X.K (.ref C') (.type b) = some (decide (b = "ValueError") && xcB T m)
  isX : ∀ n l, lk T.sub n = some l → ∀ C, c.cls n = some C → ExcC X.K C ∧ ∀ m C', c.cls m = some C' → PySem.W.kitOne X.K (.ref C) (.ref C') = some (decide (m ∈ l))
  exm : ∀ n l, lk T.sub n = some l → ∀ C, c.cls n = some C → ∀ m C', c.cls m = some C' → (lk T.sub m).isSome = true → PySem.W.exmOne X.K (.ref C) (.ref C') = some (decide (m ∈ l))
  xc : ∀ n fs, lk T.xc n = some fs → fs = [] ∧ ∃ C newId initId bmB B, c.cls n = some C ∧ ExcBaseFacts B newId initId bmB ∧ PySem.W.excIn X.K C bmB newId = true ∧ PySem.W.keepIn X.K (.ref C) = true ∧ Raises X (.ref C)
  cur : ∀ i a n dd, c.cur = some (i, a, n, dd) → ∃ X' oe pn C, X = Cx.suite X' a ((a, oe) :: pn) ∧ c.cls n = some C ∧ Zc (.ref C) dd oe ∧ (∃ vs, oe.data = .fields vs) ∧ (lk T.sub n).isSome
  flM : ∀ n m sp, lk2 T.mt n m = some sp → ∀ f ∈ c.fl n, f.s ≠ m.s

/-- a frame's values -/
structure Sta (c : Cfg) (σ : St) (H : Hp) (env : Env) (M : Mm) : Prop where
  cells : Cells c H M
  len : σ.length = env.length
  env' : ∀ (i : Nat) (d : D), env[i]? = some (some d) → ∃ v, σ[i]? = some (some v) ∧ Rep c H M v d
  cur : ∀ i a n dd, c.cur = some (i, a, n, dd) → σ[i]? = some (some (.ref a)) ∧ ∃ fs, env[i]? = some (some (.exc n fs)) ∧ ((dd = none ∧ fs = []) ∨ ∃ x vs, dd = some x ∧ H x = some (.xd vs) ∧ M x = none ∧ RepF c H M vs fs ∧ fs ≠ [])
section
variable {c : Cfg} {σ : St} {H H' : Hp} {env : Env} {M M' : Mm} {W : WX}
theorem Sta.stp (s : Sta c σ H env M) (h : Stp H M H' M') (ok : Cells c H' M') : Sta c σ H' env M' :=
  ⟨ok, s.len, fun i d e => let ⟨v, q, r⟩ := s.env' i d e; ⟨v, q, r.stp h⟩, fun i a n dd e => by
    obtain ⟨h1, fs, h2, h3⟩ := s.cur i a n dd e
    refine ⟨h1, fs, h2, h3.imp id ?_⟩
    rintro ⟨x, vs, e1, e2, e3, e4, ne⟩
    exact ⟨x, vs, e1, h.keep _ _ e2 e3, h.nn _ (by rw [e2]; exact fun z => nomatch z) e3, e4.view h.view, ne⟩⟩
/-- a place that is not the exception's -/
def Cfg.at (c : Cfg) (i : Nat) : Bool := match c.cur with
  | some (j, _) => decide (j = i)
  | none => false
theorem Cfg.at_ne {c : Cfg} {i j : Nat} {a : Addr} {n : Nm} {dd : Option Addr} (h : c.at i = false) (e : c.cur = some (j, a, n, dd)) : i ≠ j := by
  unfold Cfg.at at h; rw [e] at h; simp at h; exact fun q => h q.symm
theorem Sta.set (s : Sta c σ H env M) {v : V} {d : D} (r : Rep c H M v d) (i : Nat) (hi : c.at i = false := by rfl) : Sta c (σ.set i (some v)) H (env.set i (some d)) M := by
  refine ⟨s.cells, by simp [s.len], fun j e h => ?_, fun j a n dd e => by
    obtain ⟨h1, fs, h2, h3⟩ := s.cur j a n dd e
    have hj := Cfg.at_ne hi e
    exact ⟨by rw [List.getElem?_set_ne hj]; exact h1, fs, by rw [List.getElem?_set_ne hj]; exact h2, h3⟩⟩
  by_cases hj : i = j
  · subst hj
    by_cases hl : i < env.length
    · rw [List.getElem?_set_self hl] at h
      cases h
      exact ⟨v, by rw [List.getElem?_set_self (by rw [s.len]; exact hl)], r⟩
    · rw [List.getElem?_eq_none (by simpa using hl)] at h; cases h
  · rw [List.getElem?_set_ne hj] at h
    obtain ⟨w, q, r'⟩ := s.env' j e h
    exact ⟨w, by rw [List.getElem?_set_ne hj]; exact q, r'⟩
theorem Sta.unset (s : Sta c σ H env M) (i : Nat) (o : Option V) (hi : c.at i = false := by rfl) : Sta c (σ.set i o) H (env.set i none) M := by
  refine ⟨s.cells, by simp [s.len], fun j e h => ?_, fun j a n dd e => by
    obtain ⟨h1, fs, h2, h3⟩ := s.cur j a n dd e
    have hj := Cfg.at_ne hi e
    exact ⟨by rw [List.getElem?_set_ne hj]; exact h1, fs, by rw [List.getElem?_set_ne hj]; exact h2, h3⟩⟩
  by_cases hj : i = j
  · subst hj
    by_cases hl : i < env.length
    · rw [List.getElem?_set_self hl] at h
      cases h
    · rw [List.getElem?_eq_none (by simpa using hl)] at h; cases h
  · rw [List.getElem?_set_ne hj] at h
    obtain ⟨w, q, r'⟩ := s.env' j e h
    exact ⟨w, by rw [List.getElem?_set_ne hj]; exact q, r'⟩
/-- what is wanted of an exception -/
def Exc (c : Cfg) (W : WX) (σ : St) (H : Hp) (M : Mm) (E : QX) : Prop := ∀ cls d H' x M', Stp H M H' M' → Cells c H' M' → XRep c H' M' cls d x → E x M' → W cls d σ H'
theorem Exc.stp {E : QX} (h : Exc c W σ H M E) (s : Stp H M H' M') : Exc c W σ H' M' E := fun cls d H2 x M2 s2 ok r e => h cls d H2 x M2 (s.trans s2) ok r e
theorem Exc.none : Exc c W σ H M (fun _ _ => False) := fun _ _ _ _ _ _ _ _ e => e.elim
end
/-- what is wanted behind a value -/
def Cont (c : Cfg) (H : Hp) (M : Mm) (Q : QD) (k : VK) : Prop := ∀ v H' d M', Stp H M H' M' → Cells c H' M' → Rep c H' M' v d → Q d M' → k v H'
def ContB (c : Cfg) (H : Hp) (M : Mm) (Q : Bool → Mm → Prop) (k : Bool → Hp → Prop) : Prop := ∀ b H' M', Stp H M H' M' → Cells c H' M' → Q b M' → k b H'
def ContA (c : Cfg) (H : Hp) (M : Mm) (Q : List D → Mm → Prop) (k : List V → Hp → Prop) : Prop := ∀ vs H' ds M', Stp H M H' M' → Cells c H' M' → Reps c H' M' vs ds → Q ds M' → k vs H'
abbrev WE := Env → Mm → QD → QX → Prop
def SatE (c : Cfg) (W : WX) (t : TE) (w : WE) : Prop := ∀ Z σ H env M Q E k, Sta (c.z Z) σ H env M → w env M Q E → Exc (c.z Z) W σ H M E → Cont (c.z Z) H M Q k → t σ H k
def SatT (c : Cfg) (W : WX) (t : TT) (w : WE) : Prop := ∀ Z σ H env M (Q : Bool → Mm → Prop) E k, Sta (c.z Z) σ H env M → w env M (fun d M' => obn (truD M' d) fun b => Q b M') E → Exc (c.z Z) W σ H M E → ContB (c.z Z) H M Q k → t σ H k
def SatA (c : Cfg) (W : WX) (t : TA) (w : Env → Mm → (List D → Mm → Prop) → QX → Prop) : Prop := ∀ Z σ H env M Q E k, Sta (c.z Z) σ H env M → w env M Q E → Exc (c.z Z) W σ H M E → ContA (c.z Z) H M Q k → t σ H k
theorem Cont.stp {c : Cfg} {H H' : Hp} {M M' : Mm} {Q : QD} {k : VK} (h : Cont c H M Q k) (s : Stp H M H' M') : Cont c H' M' Q k := fun v H2 d M2 s2 ok r q => h v H2 d M2 (s.trans s2) ok r q
theorem ContB.stp {c : Cfg} {H H' : Hp} {M M' : Mm} {Q : Bool → Mm → Prop} {k : Bool → Hp → Prop} (h : ContB c H M Q k) (s : Stp H M H' M') : ContB c H' M' Q k := fun v H2 M2 s2 ok q => h v H2 M2 (s.trans s2) ok q
theorem ContA.stp {c : Cfg} {H H' : Hp} {M M' : Mm} {Q : List D → Mm → Prop} {k : List V → Hp → Prop} (h : ContA c H M Q k) (s : Stp H M H' M') : ContA c H' M' Q k := fun v H2 d M2 s2 ok r q => h v H2 d M2 (s.trans s2) ok r q
/-- a new list, whichever -/
theorem al_ok {c : Cfg} {H : Hp} {M : Mm} {m : Bool} {vs : List V} {ds : List D} {Q : QD} {k : VK} (ok : Cells c H M) (r : Reps c H M vs ds) (hz : vs.length ≤ sizeLine) (h : alL m ds M Q) (hk : Cont c H M Q k) :
    ∀ p, H p = none → k (.ref p) (upd H p (.lst vs)) := fun p hp => by
  have hM : M p = none := ok.fresh hp
  cases m with
  | true =>
    have s := stp_newc (o := .lst vs) (x := .lst ds) ok hp
    exact hk _ _ _ _ s (cells_newc ok hp (.lst upd_same hz (r.stp s))) (.ref p) (h p hM)
  | false =>
    have s := stp_new (o := .lst vs) ok hp
    exact hk _ _ _ _ s (cells_new ok hp) (.lst upd_same (ok.free hp) hz (r.stp s)) h
theorem tup_ok {c : Cfg} {H : Hp} {M : Mm} {vs : List V} {ds : List D} {Q : QD} {k : VK} (ok : Cells c H M) (r : Reps c H M vs ds) (hz : vs.length ≤ sizeLine) (h : Q (.tup ds) M) (hk : Cont c H M Q k) :
    ∀ p, H p = none → k (.ref p) (upd H p (.tup vs)) := fun p hp => by
  have s := stp_new (o := .tup vs) ok hp
  exact hk _ _ _ _ s (cells_new ok hp) (.tup upd_same (ok.free hp) hz (r.stp s)) h
end L3

set_option maxRecDepth 100000
set_option maxHeartbeats 4000000
namespace L3
open PySem L2

/-! ### operators by values -/
def OpSat (c : Cfg) (r : R2) (w : D → D → Mm → QD → Prop) : Prop := ∀ Z x y H M dx dy Q k, Cells (c.z Z) H M → Rep (c.z Z) H M x dx → Rep (c.z Z) H M y dy → w dx dy M Q → Cont (c.z Z) H M Q k → r x y H k
def CmpSat (c : Cfg) (r : R2) (w : D → D → Mm → (Bool → Prop) → Prop) : Prop := ∀ Z x y H M dx dy Q (k : VK), Cells (c.z Z) H M → Rep (c.z Z) H M x dx → Rep (c.z Z) H M y dy → w dx dy M Q → (∀ b, Q b → k (.bl b) H) → r x y H k
section
variable {c : Cfg} {W : WX} {ta tb : TE} {wa wb : WE}
theorem sat_op {r : R2} {w : D → D → Mm → QD → Prop} (hr : OpSat c r w) (ha : SatE c W ta wa) (hb : SatE c W tb wb) :
    SatE c W (tOp r ta tb) (fun env M Q E => wa env M (fun x M1 => wb env M1 (fun y M2 => w x y M2 Q) E) E) := fun Z σ H env M Q E k st h he hk => by
  refine ha Z σ H env M _ E _ st h he fun x H1 dx M1 s1 ok1 r1 q1 => ?_
  refine hb Z σ H1 env M1 _ E _ (st.stp s1 ok1) q1 (he.stp s1) fun y H2 dy M2 s2 ok2 r2 q2 => ?_
  exact hr Z x y H2 M2 dx dy Q k ok2 (r1.stp s2) r2 q2 (hk.stp (s1.trans s2))
theorem sat_cmp {r : R2} {w : D → D → Mm → (Bool → Prop) → Prop} (hr : CmpSat c r w) (ha : SatE c W ta wa) (hb : SatE c W tb wb) :
    SatE c W (tOp r ta tb) (fun env M Q E => wa env M (fun x M1 => wb env M1 (fun y M2 => w x y M2 fun b => Q (.bl b) M2) E) E) := fun Z σ H env M Q E k st h he hk => by
  refine ha Z σ H env M _ E _ st h he fun x H1 dx M1 s1 ok1 r1 q1 => ?_
  refine hb Z σ H1 env M1 _ E _ (st.stp s1 ok1) q1 (he.stp s1) fun y H2 dy M2 s2 ok2 r2 q2 => ?_
  exact hr Z x y H2 M2 dx dy _ k ok2 (r1.stp s2) r2 q2 fun b qb => hk _ _ _ _ (s1.trans s2) ok2 (.bl b) qb
theorem sat_cmpT {r : R2} {w : D → D → Mm → (Bool → Prop) → Prop} (hr : CmpSat c r w) (ha : SatE c W ta wa) (hb : SatE c W tb wb) :
    SatT c W (tTest (tOp r ta tb)) (fun env M Q E => wa env M (fun x M1 => wb env M1 (fun y M2 => w x y M2 fun b => Q (.bl b) M2) E) E) := fun Z σ H env M Q E k st h he hk => by
  refine ha Z σ H env M _ E _ st h he fun x H1 dx M1 s1 ok1 r1 q1 => ?_
  refine hb Z σ H1 env M1 _ E _ (st.stp s1 ok1) q1 (he.stp s1) fun y H2 dy M2 s2 ok2 r2 q2 => ?_
  exact hr Z x y H2 M2 dx dy _ _ ok2 (r1.stp s2) r2 q2 fun b qb => ⟨b, rfl, hk _ _ _ (s1.trans s2) ok2 qb⟩
end

section
variable {X : Cx} {c : Cfg} {H : Hp} {M : Mm}
theorem rep_int {v : V} {i : Int} (r : Rep c H M v (.int i)) : v = .int i := by cases r; rfl
theorem rep_bl {v : V} {i : Bool} (r : Rep c H M v (.bl i)) : v = .bl i := by cases r; rfl
theorem rep_str {v : V} {i : PySem.Str} (r : Rep c H M v (.str i)) : v = .str i := by cases r; rfl
theorem rep_non {v : V} (r : Rep c H M v .non) : v = .non := by cases r; rfl
def rNo : R2 := fun _ _ _ _ => False
theorem op_no {f : Value → Value → Sem Value} : OpR X f rNo := fun _ _ _ _ _ _ _ _ _ _ _ _ h => h.elim
theorem sat_no {w : D → D → Mm → QD → Prop} (h : ∀ x y M Q, ¬ w x y M Q) : OpSat c rNo w := fun _ _ _ _ _ _ _ _ _ _ _ _ q _ => (h _ _ _ _ q).elim
theorem intQ_of {x y : D} {P : Int → Int → Prop} (h : intQ x y P) : ∃ i j, x = .int i ∧ y = .int j ∧ P i j := by
  cases x with
  | int i => cases y with
    | int j => exact ⟨i, j, rfl, rfl, h⟩
    | _ => exact False.elim h
  | _ => exact False.elim h
theorem obn_of {α : Type} {o : Option α} {P : α → Prop} (h : obn o P) : ∃ a, o = some a ∧ P a := by
  cases o with
  | some a => exact ⟨a, rfl, h⟩
  | none => exact False.elim h
/-- a + b, whichever -/
def rAddU (K : PySem.W.Frag) : R2 := fun x y H Q => rI0 (fun i j => .int (i + j)) x y H Q ∨ (∃ i j, x = .str i ∧ y = .str j ∧ i.length + j.length ≤ sizeLine ∧ Q (.str (i ++ j)) H) ∨ rCat x y H Q ∨ rCatA K x y H Q
theorem op_addU : OpR X (binaryOp .Add) (rAddU X.K) := op_add.or (op_add_str.or (op_cat.or op_catA))
theorem cat_sat {m : Bool} {K : PySem.W.Frag} {x y : V} {dx dy : D} {Q : QD} {k : VK} (ok : Cells c H M) (rx : Rep c H M x dx) (ry : Rep c H M y dy) (h : catD m dx dy M Q) (hk : Cont c H M Q k) : rAddU K x y H k := by
  obtain ⟨xs, e1, h⟩ := obn_of h
  obtain ⟨ys, e2, h⟩ := obn_of h
  obtain ⟨hz, h⟩ := h
  obtain ⟨a, vs, rfl, ha, _, ra⟩ := rep_lst ok rx e1
  obtain ⟨b, ws, rfl, hb, _, rb⟩ := rep_lst ok ry e2
  have hl : vs.length + ws.length ≤ sizeLine := by rw [ra.len, rb.len]; exact hz
  exact .inr (.inr (.inl ⟨a, b, vs, ws, rfl, rfl, ha, hb, hl, al_ok ok (ra.append rb) (by rw [List.length_append]; exact hl) h hk⟩))
theorem sat_addU (hK : X.K = c.K) {m : Bool} : OpSat c (rAddU X.K) (addD m) := fun Z x y H M dx dy Q k ok rx ry h hk => by
  cases dx with
  | int i => cases dy with
    | int j =>
      rw [rep_int rx, rep_int ry]
      exact .inl ⟨i, j, rfl, rfl, hk _ _ _ _ .refl ok (.int _) h⟩
    | _ => exact False.elim h
  | str i => cases dy with
    | str j =>
      rw [rep_str rx, rep_str ry]
      exact .inr (.inl ⟨i, j, rfl, rfl, h.1, hk _ _ _ _ .refl ok (.str _) h.2⟩)
    | _ => exact False.elim h
  | tup xs => cases dy with
    | tup ys =>
      obtain ⟨hz, h⟩ := h
      cases rx with
      | tup h1 n1 z1 r1 => cases ry with
        | tup h2 n2 z2 r2 =>
          rename_i a vs b ws
          have hl : vs.length + ws.length ≤ sizeLine := by rw [r1.len, r2.len]; exact hz
          refine .inr (.inr (.inr ⟨a, b, vs, ws, rfl, rfl, SqT.of h1, SqT.of h2, hl, fun e => ?_, fun _ e => ?_, fun _ _ => ?_⟩))
          · subst e
            cases r1
            exact hk _ _ _ _ .refl ok (.tup h2 n2 z2 r2) h
          · subst e
            cases r2
            rw [List.append_nil] at h
            exact hk _ _ _ _ .refl ok (.tup h1 n1 z1 r1) h
          · exact tup_ok ok (r1.append r2) (by rw [List.length_append]; exact hl) h hk
    | _ => exact False.elim h
  | lst xs => exact cat_sat ok rx ry h hk
  | ref a => exact cat_sat ok rx ry h hk
  | _ => exact False.elim h
theorem sat_int {C : Int → Int → Prop} {g : Int → Int → Int} {w : D → D → Mm → QD → Prop} (h : ∀ x y M Q, w x y M Q → intQ x y fun i j => C i j ∧ Q (.int (g i j)) M) :
    OpSat c (rI C fun i j => .int (g i j)) w := fun Z x y H M dx dy Q k ok rx ry q hk => by
  obtain ⟨i, j, rfl, rfl, hc, q⟩ := intQ_of (h _ _ _ _ q)
  rw [rep_int rx, rep_int ry]
  exact ⟨i, j, rfl, rfl, hc, hk _ _ _ _ .refl ok (.int _) q⟩
theorem sat_int0 {g : Int → Int → Int} {w : D → D → Mm → QD → Prop} (h : ∀ x y M Q, w x y M Q → intQ x y fun i j => Q (.int (g i j)) M) :
    OpSat c (rI0 fun i j => .int (g i j)) w := fun Z x y H M dx dy Q k ok rx ry q hk => by
  obtain ⟨i, j, rfl, rfl, q'⟩ := intQ_of (h _ _ _ _ q)
  rw [rep_int rx, rep_int ry]
  exact ⟨i, j, rfl, rfl, hk _ _ _ _ .refl ok (.int _) q'⟩
theorem bin_ok (hK : X.K = c.K) (m : Bool) (op : Operator) : ∃ r, OpR X (binaryOp op) r ∧ OpSat c r (binD m op) := by
  cases op with
  | Add => exact ⟨_, op_addU, sat_addU hK⟩
  | Sub => exact ⟨_, op_sub, sat_int0 fun _ _ _ _ h => h⟩
  | Mult =>
    refine ⟨_, op_mul.or op_mulW, fun Z x y H M dx dy Q k ok rx ry q hk => ?_⟩
    obtain ⟨i, j, rfl, rfl, hc, q⟩ := intQ_of q
    rw [rep_int rx, rep_int ry]
    exact hc.imp (fun hc => ⟨i, j, rfl, rfl, hc, hk _ _ _ _ .refl ok (.int _) q⟩) fun hc => ⟨i, j, rfl, rfl, hc, hk _ _ _ _ .refl ok (.int _) q⟩
  | Mod => exact ⟨_, op_mod, sat_int fun _ _ _ _ h => h⟩
  | FloorDiv => exact ⟨_, op_fdivW, sat_int fun _ _ _ _ h => h⟩
  | Pow => exact ⟨_, op_pow, sat_int fun _ _ _ _ h => h⟩
  | BitAnd => exact ⟨_, op_and, sat_int0 fun _ _ _ _ h => h⟩
  | RShift => exact ⟨_, op_shr, sat_int fun _ _ _ _ h => h⟩
  | _ => exact ⟨_, op_no, sat_no fun _ _ _ _ h => h⟩

/-! ### data read as data -/
def toP : D → PyData
  | .bl b => .bool b
  | .int i => .int i
  | .str x => .str x
  | .tup ds => .tuple (toPL ds)
  | .lst ds => .list (toPL ds)
  | _ => .none
where toPL : List D → List PyData
  | [] => []
  | d :: r => toP d :: toPL r
mutual
inductive DR (c : Cfg) (H : Hp) : V → D → Prop
  | non : DR c H .non .non
  | bl (b : Bool) : DR c H (.bl b) (.bl b)
  | int (i : Int) : DR c H (.int i) (.int i)
  | str (x : PySem.Str) : DR c H (.str x) (.str x)
  | ref (a : Addr) : DR c H (.ref a) (.ref a)
  | lst {a : Addr} {vs : List V} {ds : List D} : SqL c.K H a vs → DRs c H vs ds → DR c H (.ref a) (.lst ds)
  | roL {a : Addr} {vs : List V} {ds : List D} : SqL c.K H a vs → DRs c H vs ds → DR c H (.ref a) (.ro false ds)
  | tup {a : Addr} {vs : List V} {ds : List D} : SqT c.K H a vs → DRs c H vs ds → DR c H (.ref a) (.tup ds)
  | roT {a : Addr} {vs : List V} {ds : List D} : SqT c.K H a vs → DRs c H vs ds → DR c H (.ref a) (.ro true ds)
  | dct {v : V} {t : Bool} {k : List (D × D)} : DR c H v (.dct t k)
  | ins {v : V} {n : Nm} {k : List (Nm × D)} : DR c H v (.ins n k)
  | exc {v : V} {n : Nm} {k : List (Nm × D)} : DR c H v (.exc n k)
inductive DRs (c : Cfg) (H : Hp) : List V → List D → Prop
  | nil : DRs c H [] []
  | cons {v : V} {d : D} {vs : List V} {ds : List D} : DR c H v d → DRs c H vs ds → DRs c H (v :: vs) (d :: ds)
end
mutual
theorem Rep.dr : ∀ {v : V} {d : D}, Rep c H M v d → DR c H v d
  | _, _, .non => .non
  | _, _, .bl b => .bl b
  | _, _, .int i => .int i
  | _, _, .str x => .str x
  | _, _, .ref a => .ref a
  | _, _, .lst h n z r => .lst (SqL.of h) (Reps.dr r)
  | _, _, .tup h n z r => .tup (SqT.of h) (Reps.dr r)
  | _, _, .roL h z r => .roL (KL.sq h) (Reps.dr r)
  | _, _, .roT h z r => .roT (.inr h) (Reps.dr r)
  | _, _, .dK h n z r => .dct
  | _, _, .dT h n z r => .dct
  | _, _, .ins h n z k r => .ins
  | _, _, .exc _ _ _ => .exc
theorem Reps.dr : ∀ {v : List V} {d : List D}, Reps c H M v d → DRs c H v d
  | _, _, .nil => .nil
  | _, _, .cons a b => .cons (Rep.dr a) (Reps.dr b)
end
mutual
theorem DR.rs (ok : Cells c H M) : ∀ {v : V} {d : D}, DR c H v d → DR c H v (rs M d)
  | _, _, .non => .non
  | _, _, .bl b => .bl b
  | _, _, .int i => .int i
  | _, _, .str x => .str x
  | _, _, .ref a => by
    unfold L3.rs
    cases e : M a with
    | none => exact .ref a
    | some x => cases x with
      | lst ds => cases ok.at' a _ e with
        | lst h z r => exact .lst (SqL.of h) r.dr
      | _ => exact .ref a
  | _, _, .lst h r => .lst h (DRs.rs ok r)
  | _, _, .tup h r => .tup h (DRs.rs ok r)
  | _, _, .roL h r => .lst h (DRs.rs ok r)
  | _, _, .roT h r => .tup h (DRs.rs ok r)
  | _, _, .dct => .dct
  | _, _, .ins => .ins
  | _, _, .exc => .exc
theorem DRs.rs (ok : Cells c H M) : ∀ {v : List V} {d : List D}, DRs c H v d → DRs c H v (rs.rsL M d)
  | _, _, .nil => .nil
  | _, _, .cons a b => .cons (DR.rs ok a) (DRs.rs ok b)
end
mutual
theorem DR.dp : ∀ {n : Nat} {v : V} {d : D}, DR c H v d → pu n d = true → Dp c.K H v (toP d)
  | _, _, _, .non, _ => .non
  | _, _, _, .bl b, _ => .bl b
  | _, _, _, .int i, _ => .int i
  | _, _, _, .str x, _ => .str x
  | _, _, _, .ref a, h => by simp [pu] at h
  | _, _, _, .lst h r, q => by
    simp only [pu, Bool.and_eq_true] at q
    exact .lst h (DRs.dp r q.2)
  | _, _, _, .tup h r, q => by
    simp only [pu, Bool.and_eq_true] at q
    exact .tup h (DRs.dp r q.2)
  | _, _, _, .roL h r, q => by simp [pu] at q
  | _, _, _, .roT h r, q => by simp [pu] at q
  | _, _, _, .dct, q => by simp [pu] at q
  | _, _, _, .ins, q => by simp [pu] at q
  | _, _, _, .exc, q => by simp [pu] at q
theorem DRs.dp : ∀ {n : Nat} {v : List V} {d : List D}, DRs c H v d → pu.puL n d = true → DpAll c.K H v (toP.toPL d)
  | _, _, _, .nil, _ => .nil
  | _, _, _, .cons a b, q => by
    simp only [pu.puL, Bool.and_eq_true] at q
    exact .cons (DR.dp a q.1) (DRs.dp b q.2)
end
end
mutual
theorem pu_lay : ∀ {n : Nat} (d : D), pu n d = true → (toP d).canLay0 = true ∧ (toP d).depth ≤ n
  | n, .non, _ => ⟨rfl, Nat.zero_le _⟩
  | n, .bl _, _ => ⟨rfl, Nat.zero_le _⟩
  | n, .int _, _ => ⟨rfl, Nat.zero_le _⟩
  | n, .str x, h => ⟨h, Nat.zero_le _⟩
  | n, .ref _, h => by simp [pu] at h
  | n, .tup ds, h => by
    simp only [pu, Bool.and_eq_true, decide_eq_true_eq] at h
    have := pu_layL ds h.2
    refine ⟨this.1, ?_⟩
    show PyData.depthAll (toP.toPL ds) + 1 ≤ n
    omega
  | n, .lst ds, h => by
    simp only [pu, Bool.and_eq_true, decide_eq_true_eq] at h
    have := pu_layL ds h.2
    refine ⟨this.1, ?_⟩
    show PyData.depthAll (toP.toPL ds) + 1 ≤ n
    omega
  | n, .dct _ _, h => by simp [pu] at h
  | n, .ins _ _, h => by simp [pu] at h
  | n, .exc _ _, h => by simp [pu] at h
  | n, .ro _ _, h => by simp [pu] at h
theorem pu_layL : ∀ {n : Nat} (ds : List D), pu.puL n ds = true → PyData.canLayAll0 (toP.toPL ds) = true ∧ PyData.depthAll (toP.toPL ds) ≤ n
  | n, [], _ => ⟨rfl, Nat.zero_le _⟩
  | n, d :: r, h => by
    simp only [pu.puL, Bool.and_eq_true] at h
    have h1 := pu_lay d h.1
    have h2 := pu_layL r h.2
    refine ⟨?_, ?_⟩
    · show ((toP d).canLay0 && PyData.canLayAll0 (toP.toPL r)) = true
      rw [h1.1, h2.1]; rfl
    · show max (toP d).depth (PyData.depthAll (toP.toPL r)) ≤ n
      exact Nat.max_le.mpr ⟨h1.2, h2.2⟩
end
theorem pu_shaped {n : Nat} {d : D} (hn : n ≤ 64) (h : pu n d = true) : SeqAt.shaped (toP d) = true := by
  have := pu_lay d h
  unfold SeqAt.shaped
  rw [this.1, decide_eq_true (show (toP d).depth ≤ 64 by omega)]
  rfl
mutual
theorem eqv_toP : ∀ {n m : Nat} (d e : D), pu n d = true → pu m e = true → PyData.eqv (toP d) (toP e) = eqv d e
  | n, m, d, e, h, h' => by
    cases d with
    | non => cases e <;> first | rfl | (simp [pu] at h')
    | bl b => cases e <;> first | rfl | (simp [pu] at h')
    | int i => cases e <;> first | rfl | (simp [pu] at h')
    | str x => cases e <;> first | rfl | (simp [pu] at h')
    | tup ds => cases e with
      | tup es =>
        simp only [pu, Bool.and_eq_true] at h h'
        exact eqv_toPL ds es h.2 h'.2
      | _ => first | rfl | (simp [pu] at h')
    | lst ds => cases e with
      | lst es =>
        simp only [pu, Bool.and_eq_true] at h h'
        exact eqv_toPL ds es h.2 h'.2
      | _ => first | rfl | (simp [pu] at h')
    | _ => simp [pu] at h
theorem eqv_toPL : ∀ {n m : Nat} (d e : List D), pu.puL n d = true → pu.puL m e = true → PyData.eqvAll (toP.toPL d) (toP.toPL e) = eqv.eqvL d e
  | n, m, [], [], _, _ => rfl
  | n, m, [], _ :: _, _, _ => rfl
  | n, m, _ :: _, [], _, _ => rfl
  | n, m, d :: r, e :: r', h, h' => by
    simp only [pu.puL, Bool.and_eq_true] at h h'
    show (PyData.eqv (toP d) (toP e) && PyData.eqvAll (toP.toPL r) (toP.toPL r')) = (eqv d e && eqv.eqvL r r')
    rw [eqv_toP d e h.1 h'.1, eqv_toPL r r' h.2 h'.2]
end
end L3

set_option maxRecDepth 100000
set_option maxHeartbeats 4000000
namespace L3
open PySem L2
/-! ### keys -/
def kyOf : D → Option Key
  | .int i => some (.inl i)
  | .str x => some (.inr x)
  | _ => none
theorem keyD_inj {a b : Key} (h : keyD a = keyD b) : a = b := by
  cases a <;> cases b <;> simp [keyD] at h <;> simp [h]
theorem eqKey_keyD (a b : Key) : eqKey (keyD a) (keyD b) = decide (a = b) := by
  cases a <;> cases b <;> simp [keyD, eqKey]
theorem eqKey_keys : ∀ (a b : List Key), eqKey.eqKeyL (a.map keyD) (b.map keyD) = decide (a = b)
  | [], [] => rfl
  | [], _ :: _ => rfl
  | _ :: _, [] => rfl
  | x :: a, y :: b => by
    show (eqKey (keyD x) (keyD y) && eqKey.eqKeyL (a.map keyD) (b.map keyD)) = _
    rw [eqKey_keyD, eqKey_keys a b]
    by_cases h : x = y <;> by_cases h2 : a = b <;> simp [h, h2]
theorem eqKey_tup (a b : List Key) : eqKey (.tup (a.map keyD)) (.tup (b.map keyD)) = decide (a = b) := eqKey_keys a b
section
variable {c : Cfg} {H : Hp} {M : Mm}
/-- a key handed in: its value -/
theorem key_flat {v : V} {d : D} (r : Rep c H M v d) (h : keyOk false d = true) : ∃ k, v = kV k ∧ d = keyD k := by
  cases r with
  | int i => exact ⟨.inl i, rfl, rfl⟩
  | str x => exact ⟨.inr x, rfl, rfl⟩
  | _ => simp [keyOk] at h
theorem keys_of : ∀ {vs : List V} {ds : List D}, Reps c H M vs ds → ds.all flatKey = true → ∃ ks : List Key, vs = ks.map kV ∧ ds = ks.map keyD
  | _, _, .nil, _ => ⟨[], rfl, rfl⟩
  | _, _, .cons (d := d) a r, h => by
    simp only [List.all_cons, Bool.and_eq_true] at h
    obtain ⟨ks, rfl, rfl⟩ := keys_of r h.2
    obtain ⟨k, rfl, rfl⟩ := key_flat a (by cases d <;> simp [flatKey] at h <;> rfl)
    exact ⟨k :: ks, rfl, rfl⟩
theorem key_tup {v : V} {d : D} (r : Rep c H M v d) (h : keyOk true d = true) : ∃ (b : Addr) (ks : List Key), v = .ref b ∧ H b = some (.tup (ks.map kV)) ∧ d = .tup (ks.map keyD) := by
  cases r with
  | tup h1 n z q =>
    obtain ⟨ks, rfl, rfl⟩ := keys_of q (by simpa [keyOk] using h)
    exact ⟨_, ks, rfl, h1, rfl⟩
  | _ => simp [keyOk] at h
theorem getK_K : ∀ {ks : List (Key × V)} {kvs : List (D × D)}, RepK c H M ks kvs → ∀ k, (valV ks k = none ∧ getK kvs (keyD k) = none) ∨ ∃ v d, valV ks k = some v ∧ getK kvs (keyD k) = some d ∧ Rep c H M v d
  | _, _, .nil, k => .inl ⟨rfl, rfl⟩
  | _, _, .cons (k := a) (v := v) (d := d) r q, k => by
    by_cases e : a = k
    · subst e
      refine .inr ⟨v, d, valV_pos rfl, ?_, r⟩
      show (if eqKey (keyD a) (keyD a) = true then some d else _) = some d
      rw [eqKey_keyD, if_pos (decide_eq_true rfl)]
    · have e1 : ∀ x y, valV ((a, x) :: y) k = valV y k := fun x y => valV_neg e
      have e2 : ∀ x y, getK ((keyD a, x) :: y) (keyD k) = getK y (keyD k) := fun x y => by
        show (if eqKey (keyD a) (keyD k) = true then _ else _) = _
        rw [eqKey_keyD, decide_eq_false e, if_neg Bool.false_ne_true]
      rw [e1, e2]
      exact getK_K q k
theorem getK_T : ∀ {ks : List (List Key × V)} {kvs : List (D × D)}, RepT c H M ks kvs → ∀ k, (valV ks k = none ∧ getK kvs (.tup (k.map keyD)) = none) ∨ ∃ v d, valV ks k = some v ∧ getK kvs (.tup (k.map keyD)) = some d ∧ Rep c H M v d
  | _, _, .nil, k => .inl ⟨rfl, rfl⟩
  | _, _, .cons (k := a) (v := v) (d := d) _ r q, k => by
    by_cases e : a = k
    · subst e
      refine .inr ⟨v, d, valV_pos rfl, ?_, r⟩
      show (if eqKey (.tup (a.map keyD)) (.tup (a.map keyD)) = true then some d else _) = some d
      rw [eqKey_tup, if_pos (decide_eq_true rfl)]
    · have e1 : ∀ x y, valV ((a, x) :: y) k = valV y k := fun x y => valV_neg e
      have e2 : ∀ x y, getK ((.tup (a.map keyD), x) :: y) (.tup (k.map keyD)) = getK y (.tup (k.map keyD)) := fun x y => by
        show (if eqKey (.tup (a.map keyD)) (.tup (k.map keyD)) = true then _ else _) = _
        rw [eqKey_tup, decide_eq_false e, if_neg Bool.false_ne_true]
      rw [e1, e2]
      exact getK_T q k
/-- what a dict has at a key -/
theorem dget_of (ok : Cells c H M) {v w : V} {d e : D} {t : Bool} {kvs : List (D × D)} (r : Rep c H M v d) (h : dctD M d = some (t, kvs)) (rk : Rep c H M w e) (hk : keyOk t e = true) :
    ∃ a, v = .ref a ∧ ((getK kvs e = none ∧ DGet H a w none) ∨ ∃ x dx, getK kvs e = some dx ∧ DGet H a w (some x) ∧ Rep c H M x dx) := by
  obtain ⟨a, rfl, h⟩ := rep_dct ok r h
  refine ⟨a, rfl, ?_⟩
  rcases h with ⟨rfl, ks, h1, _, q⟩ | ⟨rfl, ks, h1, _, q⟩
  · obtain ⟨k, rfl, rfl⟩ := key_flat rk hk
    rcases getK_K q k with ⟨e1, e2⟩ | ⟨x, dx, e1, e2, rx⟩
    · exact .inl ⟨e2, .inl ⟨ks, k, h1, rfl, e1.symm⟩⟩
    · exact .inr ⟨x, dx, e2, .inl ⟨ks, k, h1, rfl, e1.symm⟩, rx⟩
  · obtain ⟨b, k, rfl, hb, rfl⟩ := key_tup rk hk
    rcases getK_T q k with ⟨e1, e2⟩ | ⟨x, dx, e1, e2, rx⟩
    · exact .inl ⟨e2, .inr ⟨ks, k, b, h1, rfl, hb, e1.symm⟩⟩
    · exact .inr ⟨x, dx, e2, .inr ⟨ks, k, b, h1, rfl, hb, e1.symm⟩, rx⟩
end

/-! ### comparisons -/
section
variable {X : Cx} {c : Cfg}
def rDIn : R2 := fun x y H Q => ∃ a o, y = .ref a ∧ DGet H a x o ∧ Q (.bl o.isSome) H
def rDNotIn : R2 := fun x y H Q => ∃ a o, y = .ref a ∧ DGet H a x o ∧ Q (.bl (!o.isSome)) H
theorem op_dIn (hu : X.A.units + 1 < cLine) : OpR X (compareOp .In) rDIn := fun pins s σ H x y v u Q I rx ry ⟨a, o, e, g, q⟩ => by
  subst e
  obtain rfl : u = Value.ref a := ry
  exact d_in hu I g rx fun s3 I3 => ⟨.bl o.isSome, H, I3, rfl, q⟩
theorem op_dNotIn (hu : X.A.units + 1 < cLine) : OpR X (compareOp .NotIn) rDNotIn := fun pins s σ H x y v u Q I rx ry ⟨a, o, e, g, q⟩ => by
  subst e
  obtain rfl : u = Value.ref a := ry
  exact d_notIn hu I g rx fun s3 I3 => ⟨.bl (!o.isSome), H, I3, rfl, q⟩
theorem eq_dat (hK : X.K = c.K) {x y : V} {H : Hp} {M : Mm} {dx dy : D} {Q : Bool → Prop} (ok : Cells c H M) (rx : Rep c H M x dx) (ry : Rep c H M y dy) (h : eqQ dx dy M Q) :
    ∃ d e, Dp X.K H x d ∧ Dp X.K H y e ∧ SeqAt.shaped d = true ∧ SeqAt.shaped e = true ∧ Q (PyData.eqv d e) := by
  obtain ⟨h1, h2, h⟩ := h
  rw [hK]
  exact ⟨_, _, DR.dp ((rx.dr.rs ok).rs ok) h1, DR.dp ((ry.dr.rs ok).rs ok) h2, pu_shaped (by decide) h1, pu_shaped (by decide) h2, by rw [eqv_toP _ _ h1 h2]; exact h⟩
theorem flat_rep {H : Hp} {M : Mm} {x : V} {d : D} (r : Rep c H M x d) (h : flatD d = true) : flatV x = true := by
  cases r <;> first | rfl | simp [flatD] at h
theorem flat_eq {H : Hp} {M : Mm} {x y : V} {d e : D} (r : Rep c H M x d) (r' : Rep c H M y e) (h : flatD d = true) (h' : flatD e = true) : eqV x y = eqv d e := by
  cases r <;> first | (simp [flatD] at h; done) | (cases r' <;> first | rfl | (simp [flatD] at h'; done))
theorem flats_rep {H : Hp} {M : Mm} {x : V} {d : D} (r : Rep c H M x d) (h : flatD d = true) : ∀ {vs : List V} {ds : List D}, Reps c H M vs ds → ds.all flatD = true → vs.all flatV = true ∧ inV x vs = ds.any fun z => eqv z d
  | _, _, .nil, _ => ⟨rfl, rfl⟩
  | _, _, .cons (v := v) (vs := vs) a q, h' => by
    simp only [List.all_cons, Bool.and_eq_true] at h'
    obtain ⟨h1, h2⟩ := flats_rep r h q h'.2
    refine ⟨by rw [List.all_cons, flat_rep a h'.1, h1]; rfl, ?_⟩
    show (eqV v x || inV x vs) = _
    rw [flat_eq a r h'.1 h, h2, List.any_cons]
theorem any_toP {n m : Nat} {d : D} (h : pu m d = true) : ∀ (ds : List D), pu.puL n ds = true → ((toP.toPL ds).any fun z => PyData.eqv z (toP d)) = ds.any fun z => eqv z d
  | [], _ => rfl
  | e :: r, q => by
    simp only [pu.puL, Bool.and_eq_true] at q
    show (PyData.eqv (toP e) (toP d) || (toP.toPL r).any fun z => PyData.eqv z (toP d)) = _
    rw [eqv_toP e d q.1 h, any_toP h r q.2, List.any_cons]
/-- x in y, whichever, by P of the answer -/
theorem in_sat (hK : X.K = c.K) {x y : V} {H : Hp} {M : Mm} {dx dy : D} {Q : Bool → Prop} (ok : Cells c H M) (rx : Rep c H M x dx) (ry : Rep c H M y dy) (h : inQ dx dy M Q) :
    (∃ a o, y = .ref a ∧ DGet H a x o ∧ Q o.isSome) ∨ (∃ i j, x = .str i ∧ y = .str j ∧ Q (!(Builtin.Str.occurrences j i 0 j.length 1).isEmpty)) ∨
    (∃ p xs, y = .ref p ∧ (SqL X.K H p xs ∨ SqT X.K H p xs) ∧ flatV x = true ∧ xs.all flatV = true ∧ Q (inV x xs)) ∨
    (∃ d ds, Dp X.K H x d ∧ Dp X.K H y (.list ds) ∧ SeqAt.shaped d = true ∧ SeqAt.shaped (.list ds) = true ∧ Q (ds.any fun z => PyData.eqv z d)) := by
  unfold inQ at h
  cases e : dctD M dy with
  | some p =>
    obtain ⟨t, kvs⟩ := p
    rw [e] at h
    obtain ⟨hk, h⟩ := h
    obtain ⟨a, rfl, g⟩ := dget_of ok ry e rx hk
    rcases g with ⟨g1, g2⟩ | ⟨w, dw, g1, g2, _⟩
    · rw [g1] at h; exact .inl ⟨a, _, rfl, g2, h⟩
    · rw [g1] at h; exact .inl ⟨a, _, rfl, g2, h⟩
  | none =>
    rw [e] at h
    have seq : ∀ {dy : D}, Rep c H M y dy → (obn (seqD M dy) fun ds => cnd (pu 59 (rs M dx) = true) (cnd (pu 59 (.lst ds) = true) (Q (ds.any fun z => eqv z (rs M dx))))) → (∀ ds, dy ≠ .tup ds) → (∀ ds, dy ≠ .ro true ds) →
        ∃ d ds, Dp X.K H x d ∧ Dp X.K H y (.list ds) ∧ SeqAt.shaped d = true ∧ SeqAt.shaped (.list ds) = true ∧ Q (ds.any fun z => PyData.eqv z d) := fun {dy} ry h nt nr => by
      obtain ⟨ds, e1, h1, h2, h⟩ := obn_of h
      have hl : ∃ a vs, y = .ref a ∧ SqL c.K H a vs ∧ Reps c H M vs ds := by
        cases ry with
        | lst h1 n z q => cases e1; exact ⟨_, _, rfl, SqL.of h1, q⟩
        | roL h1 z q => cases e1; exact ⟨_, _, rfl, KL.sq h1, q⟩
        | roT h1 z q => exact absurd rfl (nr _)
        | tup h1 n z q => exact absurd rfl (nt _)
        | ref a =>
          cases e2 : M a with
          | none => simp [seqD, e2] at e1
          | some x =>
            cases x with
            | lst es =>
              simp [seqD, e2] at e1; subst e1
              cases ok.at' a _ e2 with
              | lst h1 z q => exact ⟨a, _, rfl, SqL.of h1, q⟩
            | _ => simp [seqD, e2] at e1
        | _ => cases e1
      obtain ⟨a, vs, rfl, hs, q⟩ := hl
      rw [hK]
      refine ⟨_, _, DR.dp (rx.dr.rs ok) h1, DR.dp (d := .lst ds) (n := 59) (.lst hs q.dr) h2, pu_shaped (by decide) h1, pu_shaped (n := 59) (d := .lst ds) (by decide) h2, ?_⟩
      have h2' : pu.puL 58 ds = true := by
        simp only [pu, Bool.and_eq_true] at h2
        exact h2.2
      rw [show (toP.toPL ds).any (fun z => PyData.eqv z (toP (rs M dx))) = _ from any_toP h1 ds h2']
      exact h
    have flat : ∀ {ds : List D} {p : Addr} {xs : List V}, y = .ref p → SqT c.K H p xs → Reps c H M xs ds → (cnd (flatD dx = true) (cnd (ds.all flatD = true) (Q (ds.any fun z => eqv z dx)))) →
        ∃ p xs, y = .ref p ∧ (SqL X.K H p xs ∨ SqT X.K H p xs) ∧ flatV x = true ∧ xs.all flatV = true ∧ Q (inV x xs) := fun {ds p xs} ey hs q h => by
      obtain ⟨h1, h2, h⟩ := h
      obtain ⟨f1, f2⟩ := flats_rep rx h1 q h2
      rw [hK]
      exact ⟨p, xs, ey, .inr hs, flat_rep rx h1, f1, by rw [f2]; exact h⟩
    cases dy with
    | str t => cases dx with
      | str s =>
        rw [rep_str rx, rep_str ry]
        exact .inr (.inl ⟨s, t, rfl, rfl, h⟩)
      | _ => exact False.elim h
    | tup ds => cases ry with
      | tup h1 n z q => exact .inr (.inr (.inl (flat rfl (SqT.of h1) q h)))
    | ro t ds => cases t with
      | true => cases ry with
        | roT h1 z q => exact .inr (.inr (.inl (flat rfl (.inr h1) q h)))
      | false => exact .inr (.inr (.inr (seq ry h (by simp) (by simp))))
    | lst ds => exact .inr (.inr (.inr (seq ry h (by simp) (by simp))))
    | ref a => exact .inr (.inr (.inr (seq ry h (by simp) (by simp))))
    | _ => obtain ⟨_, e1, _⟩ := obn_of h; cases e1
theorem is_sat {x y : V} {H : Hp} {M : Mm} {dx dy : D} {Q : Bool → Prop} (rx : Rep c H M x dx) (ry : Rep c H M y dy) (h : isQ dx dy Q) :
    (y = .non ∧ Q (decide (x = .non))) ∨ ∃ a b, x = .bl a ∧ y = .bl b ∧ Q (decide (a = b)) := by
  cases dy with
  | non =>
    rw [rep_non ry]
    refine .inl ⟨rfl, ?_⟩
    have e : decide (x = .non) = (match dx with | .non => true | _ => false) := by
      cases rx <;> simp
    rw [e]
    cases dx <;> exact h
  | bl b => cases dx with
    | bl a => exact .inr ⟨a, b, rep_bl rx, rep_bl ry, h⟩
    | _ => exact False.elim h
  | _ => exact False.elim h
theorem intsD_rep {H : Hp} {M : Mm} : ∀ {vs : List V} {ds : List D} {is : List Int}, Reps c H M vs ds → intsD ds = some is → vs = is.map V.int
  | _, _, _, .nil, h => by cases h; rfl
  | _, _, _, .cons (d := d) (ds := ds) a r, h => by
    cases d with
    | int i =>
      cases e : intsD ds with
      | none => simp [intsD, e] at h
      | some js =>
        simp [intsD, e] at h; subst h
        rw [rep_int a, intsD_rep r e]; rfl
    | _ => simp [intsD] at h
theorem boolsD_rep {H : Hp} {M : Mm} : ∀ {vs : List V} {ds : List D} {is : List Bool}, Reps c H M vs ds → boolsD ds = some is → vs = is.map V.bl
  | _, _, _, .nil, h => by cases h; rfl
  | _, _, _, .cons (d := d) (ds := ds) a r, h => by
    cases d with
    | bl i =>
      cases e : boolsD ds with
      | none => simp [boolsD, e] at h
      | some js =>
        simp [boolsD, e] at h; subst h
        rw [rep_bl a, boolsD_rep r e]; rfl
    | _ => simp [boolsD] at h
def rLtU (K : PySem.W.Frag) : R2 := fun x y H Q => rI0 (fun i j => .bl (decide (i < j))) x y H Q ∨ (∃ i j, x = .str i ∧ y = .str j ∧ Q (.bl (decide (i.cps.toList < j.cps.toList))) H) ∨ rLtT K x y H Q
theorem cmp_ok (hK : X.K = c.K) (hu : X.A.units + 70 < cLine) (op : CmpOp) : ∃ r, OpR X (compareOp op) r ∧ CmpSat c r (cmpD op) := by
  cases op with
  | Eq => exact ⟨_, op_eqD (by omega), fun Z x y H M dx dy Q k ok rx ry h hk => let ⟨d, e, h1, h2, h3, h4, h⟩ := eq_dat (c := c.z Z) hK ok rx ry h; ⟨d, e, h1, h2, h3, h4, hk _ h⟩⟩
  | NotEq => exact ⟨_, op_neD (by omega), fun Z x y H M dx dy Q k ok rx ry h hk => let ⟨d, e, h1, h2, h3, h4, h⟩ := eq_dat (c := c.z Z) (Q := fun b => Q (!b)) hK ok rx ry h; ⟨d, e, h1, h2, h3, h4, hk _ h⟩⟩
  | Lt =>
    refine ⟨rLtU X.K, op_lt.or (op_lt_str.or (op_ltT (by omega))), fun Z x y H M dx dy Q k ok rx ry h hk => ?_⟩
    cases dx with
    | int i => cases dy with
      | int j => rw [rep_int rx, rep_int ry]; exact .inl ⟨i, j, rfl, rfl, hk _ h⟩
      | _ => exact False.elim h
    | str i => cases dy with
      | str j => rw [rep_str rx, rep_str ry]; exact .inr (.inl ⟨i, j, rfl, rfl, hk _ h⟩)
      | _ => exact False.elim h
    | tup xs => cases dy with
      | tup ys =>
        obtain ⟨is, e1, h⟩ := obn_of h
        obtain ⟨js, e2, h⟩ := obn_of h
        cases rx with
        | tup h1 n1 z1 r1 => cases ry with
          | tup h2 n2 z2 r2 =>
            rw [intsD_rep r1 e1] at h1
            rw [intsD_rep r2 e2] at h2
            exact .inr (.inr ⟨_, _, is, js, rfl, rfl, SqT.of h1, SqT.of h2, hk _ h⟩)
      | _ => exact False.elim h
    | _ => exact False.elim h
  | LtE => exact ⟨_, op_le, fun Z x y H M dx dy Q k ok rx ry h hk => let ⟨i, j, e1, e2, q⟩ := intQ_of h; ⟨i, j, rep_int (e1 ▸ rx), rep_int (e2 ▸ ry), hk _ q⟩⟩
  | Gt => exact ⟨_, op_gt, fun Z x y H M dx dy Q k ok rx ry h hk => let ⟨i, j, e1, e2, q⟩ := intQ_of h; ⟨i, j, rep_int (e1 ▸ rx), rep_int (e2 ▸ ry), hk _ q⟩⟩
  | GtE => exact ⟨_, op_ge, fun Z x y H M dx dy Q k ok rx ry h hk => let ⟨i, j, e1, e2, q⟩ := intQ_of h; ⟨i, j, rep_int (e1 ▸ rx), rep_int (e2 ▸ ry), hk _ q⟩⟩
  | Is =>
    refine ⟨_, op_isN.or op_isBl, fun Z x y H M dx dy Q k ok rx ry h hk => ?_⟩
    rcases is_sat rx ry h with ⟨e, q⟩ | ⟨a, b, e1, e2, q⟩
    · exact .inl ⟨e, hk _ q⟩
    · exact .inr ⟨a, b, e1, e2, hk _ q⟩
  | IsNot =>
    refine ⟨_, op_notN.or op_notBl, fun Z x y H M dx dy Q k ok rx ry h hk => ?_⟩
    rcases is_sat (Q := fun b => Q (!b)) rx ry h with ⟨e, q⟩ | ⟨a, b, e1, e2, q⟩
    · exact .inl ⟨e, hk _ q⟩
    · exact .inr ⟨a, b, e1, e2, hk _ q⟩
  | In =>
    refine ⟨_, (op_dIn (by omega)).or (op_in_str.or (op_in_seq.or (op_inD (by omega)))), fun Z x y H M dx dy Q k ok rx ry h hk => ?_⟩
    rcases in_sat (c := c.z Z) hK ok rx ry h with ⟨a, o, e, g, q⟩ | ⟨i, j, e1, e2, q⟩ | ⟨p, xs, e, s, f1, f2, q⟩ | ⟨d, ds, h1, h2, h3, h4, q⟩
    · exact .inl ⟨a, o, e, g, hk _ q⟩
    · exact .inr (.inl ⟨i, j, e1, e2, hk _ q⟩)
    · exact .inr (.inr (.inl ⟨p, xs, e, s, f1, f2, hk _ q⟩))
    · exact .inr (.inr (.inr ⟨d, ds, h1, h2, h3, h4, hk _ q⟩))
  | NotIn =>
    refine ⟨_, (op_dNotIn (by omega)).or (op_notin_str.or (op_notIn_seq.or (op_notInD (by omega)))), fun Z x y H M dx dy Q k ok rx ry h hk => ?_⟩
    rcases in_sat (c := c.z Z) (Q := fun b => Q (!b)) hK ok rx ry h with ⟨a, o, e, g, q⟩ | ⟨i, j, e1, e2, q⟩ | ⟨p, xs, e, s, f1, f2, q⟩ | ⟨d, ds, h1, h2, h3, h4, q⟩
    · exact .inl ⟨a, o, e, g, hk _ q⟩
    · exact .inr (.inl ⟨i, j, e1, e2, hk _ q⟩)
    · exact .inr (.inr (.inl ⟨p, xs, e, s, f1, f2, hk _ q⟩))
    · exact .inr (.inr (.inr ⟨d, ds, h1, h2, h3, h4, hk _ q⟩))
end
end L3

set_option maxRecDepth 100000
set_option maxHeartbeats 4000000
namespace L3
open PySem L2
section
variable {X : Cx} {c : Cfg}
/-! ### subscripts -/
def rDIx : R2 := fun x y H Q => ∃ a v, x = .ref a ∧ DGet H a y (some v) ∧ Q v H
theorem ix_dict (hu : X.A.units + 1 < cLine) : IxR X rDIx := fun value slice pins s σ H x y v u Q I rx ry ⟨a, w, ex, g, q⟩ hs => by
  subst ex
  obtain rfl : v = Value.ref a := rx
  have hT := dict_typeIs I g
  have core : wpAny (model X.prog X.w) X.A (getItem (.ref a) u) (EP X pins σ Q) X.xe s := d_getItem hu I g ry fun w' s3 I3 rw' => ⟨w, H, I3, rw', q⟩
  have tail : wpAny (model X.prog X.w) X.A (subscripted slice false (.ref a) u) (fun r s₃ => wpAny (model X.prog X.w) X.A (letTemporaryGo value (.ref a) r >>= fun _ => pure r) (EP X pins σ Q) X.xe s₃) X.xe s := by
    rw [hs]; exact wpAny_operating (wpAny_mono core (fun r s₃ h₃ => wpAny_bind (wpAny_letTemporaryGo (wpAny_pure h₃))) fun _ _ z => z)
  unfold PyProof.Rows.subscriptTail; refine wpAny_bind ?_
  rw [getitemInPython_of_ne hT.not_modules]; refine wpAny_bind (wpAny_specialOf hT PySem.F.slot_dict_getitem.lookup ?_)
  first
    | exact wpAny_pure (wpAny_bind tail)
    | exact wpAny_bind tail
    | exact wpAny_pure tail
theorem atI_rep {H : Hp} {M : Mm} {vs : List V} {ds : List D} {i : Int} {d : D} (r : Reps c H M vs ds) (h : atI ds i = some d) : ∃ v, atI vs i = some v ∧ Rep c H M v d := by
  unfold atI at h ⊢
  rw [r.len]
  cases e : ixN ds.length i with
  | none => rw [e] at h; cases h
  | some j =>
    rw [e] at h
    exact r.get h
theorem ix_ok (hK : X.K = c.K) (hu : X.A.units + 70 < cLine) : ∃ r, IxR X r ∧ OpSat c r (fun x y M Q => ixD x y M fun v => Q v M) := by
  refine ⟨_, (ix_dict (by omega)).or ix_seq, fun Z x y H M dx dy Q k ok rx ry h hk => ?_⟩
  change ixD dx dy M (fun v => Q v M) at h
  unfold ixD at h
  cases e : dctD M dx with
  | some p =>
    obtain ⟨t, kvs⟩ := p
    rw [e] at h
    obtain ⟨h1, h⟩ := h
    obtain ⟨d, e2, h⟩ := obn_of h
    obtain ⟨a, rfl, g⟩ := dget_of ok rx e ry h1
    rcases g with ⟨g1, _⟩ | ⟨w, dw, g1, g2, rw'⟩
    · rw [g1] at e2; cases e2
    · rw [g1] at e2; cases e2
      exact .inl ⟨a, w, rfl, g2, hk _ _ _ _ .refl ok rw' h⟩
  | none =>
    rw [e] at h
    cases dy with
    | int n =>
      rw [rep_int ry]
      have seq : (obn (seqD M dx) fun ds => obn (atI ds n) fun v => Q v M) → rIx X.K x (.int n) H k := fun h => by
        obtain ⟨ds, e1, h⟩ := obn_of h
        obtain ⟨d, e2, h⟩ := obn_of h
        obtain ⟨a, vs, rfl, hs, hz, r⟩ := rep_seq ok rx e1
        obtain ⟨v, ev, rv⟩ := atI_rep r e2
        rw [hK]
        exact hs.elim (fun s => .inl ⟨a, vs, n, v, rfl, rfl, s, ev, hk _ _ _ _ .refl ok rv h⟩) fun s => .inr (.inl ⟨a, vs, n, v, rfl, rfl, s, ev, hk _ _ _ _ .refl ok rv h⟩)
      cases dx with
      | str z =>
        obtain ⟨h1, h⟩ := h
        obtain ⟨ch, e2, h⟩ := obn_of h
        rw [rep_str rx]
        exact .inr (.inr (.inr ⟨z, n, ch, rfl, rfl, h1, e2, hk _ _ _ _ .refl ok (.str _) h⟩))
      | _ => exact .inr (seq h)
    | _ => exact False.elim h
/-! ### slices -/
def rSlU (K : PySem.W.Frag) : V → Option Int → Option Int → Hp → VK → Prop := fun x lo hi H Q => rSlL K x lo hi H Q ∨ rSlS x lo hi H Q ∨ rSlA K x lo hi H Q
theorem sl_U : SlR X (rSlU X.K) := sl_list.or (sl_str.or sl_tupA)
theorem cut_rep {H : Hp} {M : Mm} {vs : List V} {ds : List D} (r : Reps c H M vs ds) (lo hi : Option Int) : Reps c H M (cutV vs lo hi) (cut ds lo hi) := by
  unfold cutV cut
  rw [r.len]
  exact Reps.take _ (Reps.drop _ r)
theorem cut_all {α : Type} (ds : List α) (lo hi : Option Int) (h : HT.sIx ds.length 0 lo = 0 ∧ HT.sIx ds.length ds.length hi = ds.length) : cut ds lo hi = ds := by
  unfold cut
  rw [h.1, h.2]
  simp
theorem sl_sat (hK : X.K = c.K) {m : Bool} {x : V} {lo hi : Option Int} {H : Hp} {M : Mm} {dx : D} {Q : QD} {k : VK} (ok : Cells c H M) (rx : Rep c H M x dx)
    (h : slD m dx lo hi M Q) (hk : Cont c H M Q k) : rSlU X.K x lo hi H k := by
  have seq : (∀ ds, dx ≠ .tup ds) → (∀ ds, dx ≠ .ro true ds) → (obn (seqD M dx) fun ds => alL m (cut ds lo hi) M Q) → rSlU X.K x lo hi H k := fun nt nr h => by
    obtain ⟨ds, e1, h⟩ := obn_of h
    have hl : ∃ a vs, x = .ref a ∧ SqL c.K H a vs ∧ vs.length ≤ sizeLine ∧ Reps c H M vs ds := by
      cases rx with
      | lst h1 n z q => cases e1; exact ⟨_, _, rfl, SqL.of h1, z, q⟩
      | roL h1 z q => cases e1; exact ⟨_, _, rfl, KL.sq h1, z, q⟩
      | roT h1 z q => exact absurd rfl (nr _)
      | tup h1 n z q => exact absurd rfl (nt _)
      | ref a =>
        cases e2 : M a with
        | none => simp [seqD, e2] at e1
        | some x =>
          cases x with
          | lst es =>
            simp [seqD, e2] at e1; subst e1
            cases ok.at' a _ e2 with
            | lst h1 z q => exact ⟨a, _, rfl, SqL.of h1, z, q⟩
          | _ => simp [seqD, e2] at e1
      | _ => cases e1
    obtain ⟨a, vs, rfl, hs, hz, q⟩ := hl
    rw [hK]
    exact .inl ⟨a, vs, rfl, hs, al_ok ok (cut_rep q lo hi) (Nat.le_trans (cutV_length vs lo hi) hz) h hk⟩
  cases dx with
  | str z =>
    obtain ⟨h1, h⟩ := h
    rw [rep_str rx]
    exact .inr (.inl ⟨z, rfl, h1, hk _ _ _ _ .refl ok (.str _) h⟩)
  | tup ds => cases rx with
    | tup h1 n z q =>
      rename_i a vs
      refine .inr (.inr ⟨a, vs, rfl, SqT.of h1, fun e => ?_, fun _ => ?_⟩)
      · rw [q.len] at e
        have h : Q (.tup (cut ds lo hi)) M := h
        rw [cut_all ds lo hi e] at h
        exact hk _ _ _ _ .refl ok (.tup h1 n z q) h
      · exact tup_ok ok (cut_rep q lo hi) (Nat.le_trans (cutV_length vs lo hi) z) h hk
  | ro t ds => cases t with
    | true => exact False.elim h
    | false => exact seq (by simp) (by simp) h
  | lst ds => exact seq (by simp) (by simp) h
  | ref a => exact seq (by simp) (by simp) h
  | _ => exact absurd h (by simp [slD, obn, seqD])
end

/-! ### sorting -/
theorem perm_sorted_eq {α : Type} {le : α → α → Prop} (anti : ∀ a b, le a b → le b a → a = b) : ∀ {l m : List α}, l.Perm m → l.Pairwise le → m.Pairwise le → l = m
  | [], m, p, _, _ => by rw [List.nil_perm.mp p]
  | a :: l, [], p, _, _ => by have := p.length_eq; simp at this
  | a :: l, b :: m, p, hl, hm => by
    have ha : a ∈ b :: m := p.subset (List.mem_cons_self)
    have hb : b ∈ a :: l := p.symm.subset (List.mem_cons_self)
    have e : a = b := by
      rcases List.mem_cons.mp ha with e | ha
      · exact e
      · rcases List.mem_cons.mp hb with e | hb
        · exact e.symm
        · exact anti a b ((List.pairwise_cons.mp hl).1 b hb) ((List.pairwise_cons.mp hm).1 a ha)
    subst e
    rw [perm_sorted_eq anti (List.perm_cons a |>.mp p) (List.pairwise_cons.mp hl).2 (List.pairwise_cons.mp hm).2]
theorem sortI_uniq {ns ms : List Int} (p : ms.Perm ns) (h : ms.Pairwise (· ≤ ·)) : ms = ns.mergeSort fun a b => decide (a ≤ b) := by
  refine perm_sorted_eq (le := (· ≤ ·)) (fun a b h1 h2 => Int.le_antisymm h1 h2) (p.trans (List.mergeSort_perm ns _).symm) h ?_
  refine (List.pairwise_mergeSort (le := fun a b : Int => decide (a ≤ b)) (fun a b c h1 h2 => ?_) (fun a b => ?_) ns).imp fun h => of_decide_eq_true h
  · simp at h1 h2 ⊢; omega
  · simp; omega
theorem leP_trans (a b c : Int × Int) (h1 : leP a b = true) (h2 : leP b c = true) : leP a c = true := by
  simp [leP] at h1 h2 ⊢; omega
theorem leP_total (a b : Int × Int) : (leP a b || leP b a) = true := by
  simp [leP]; omega
theorem leP_anti (a b : Int × Int) (h1 : leP a b = true) (h2 : leP b a = true) : a = b := by
  simp [leP] at h1 h2
  obtain ⟨a1, a2⟩ := a
  obtain ⟨b1, b2⟩ := b
  simp at h1 h2 ⊢; omega
theorem sortP_uniq {ns ms : List (Int × Int)} (p : ms.Perm ns) (h : ms.Pairwise fun a b => leP a b = true) : ms = ns.mergeSort leP :=
  perm_sorted_eq (le := fun a b => leP a b = true) leP_anti (p.trans (List.mergeSort_perm ns _).symm) h (List.pairwise_mergeSort leP_trans leP_total ns)
end L3

set_option maxRecDepth 100000
set_option maxHeartbeats 4000000
namespace L3
open PySem L2
/-- a built-in called, by values -/
def BiSat (c : Cfg) (r : List V → Hp → VK → Prop) (w : List D → Mm → QD → Prop) : Prop := ∀ Z vs H M ds Q k, Cells (c.z Z) H M → Reps (c.z Z) H M vs ds → w ds M Q → Cont (c.z Z) H M Q k → r vs H k
section
variable {X : Cx} {c : Cfg}
theorem reps1 {H : Hp} {M : Mm} {vs : List V} {d : D} (r : Reps c H M vs [d]) : ∃ v, vs = [v] ∧ Rep c H M v d := by
  cases r with
  | cons a q => cases q; exact ⟨_, rfl, a⟩
theorem reps2 {H : Hp} {M : Mm} {vs : List V} {d e : D} (r : Reps c H M vs [d, e]) : ∃ v w, vs = [v, w] ∧ Rep c H M v d ∧ Rep c H M w e := by
  cases r with
  | cons a q => cases q with
    | cons b q => cases q; exact ⟨_, _, rfl, a, b⟩
def rLenR : List V → Hp → VK → Prop := fun xs H Q => ∃ a kvs, xs = [V.ref a] ∧ Rd H a (.dK kvs) ∧ Q (.int kvs.length) H
theorem call_lenR : CallR X (.builtin "len") rLenR := fun pins s σ H xs us Q I r ⟨a, kvs, e, ha, q⟩ => by
  subst e
  obtain ⟨u, rfl, ru⟩ := vals1 r
  cases ru; exact d_len I ha fun t s' I' => ⟨.int kvs.length, H, I', ⟨t, rfl⟩, q⟩
def rLenTR : List V → Hp → VK → Prop := fun xs H Q => ∃ (p : Addr) (kvs : List (List Key × V)), xs = [.ref p] ∧ Rd H p (.dT kvs) ∧ Q (.int ((kvs.length : Nat) : Int)) H
theorem call_lenTR : CallR X (.builtin "len") rLenTR := fun pins s σ H xs us Q I r ⟨p, kvs, e, hp, q⟩ => by
  subst e
  obtain ⟨u, rfl, rx⟩ := vals1 r
  cases rx; obtain ⟨z, hd, ys, rel, dd⟩ := dt_rd I.hok hp
  have hl : ys.length = kvs.length := (Paired.length rel).symm
  refine call_len_dictH hd dd (by rw [hl]; rw [sizeLine_eq] at z; omega) ?_
  rw [hl]; exact ⟨.int ((kvs.length : Nat) : Int), H, I.tok _, ⟨_, rfl⟩, q⟩
theorem len_sat (hK : X.K = c.K) {vs : List V} {H : Hp} {M : Mm} {d : D} {n : Int} {k : VK} (ok : Cells c H M) (r : Reps c H M vs [d]) (h : lenD M d = some n) (q : k (.int n) H) :
    (∃ x n, vs = [x] ∧ LenV X.K x H n ∧ k (.int n) H) ∨ rLenR vs H k ∨ rLenTR vs H k := by
  obtain ⟨v, rfl, r0⟩ := reps1 r
  have r := r0
  unfold lenD at h
  cases e : dctD M d with
  | some p =>
    obtain ⟨t, kvs⟩ := p
    rw [e] at h
    cases h
    obtain ⟨a, rfl, g⟩ := rep_dct ok r e
    rcases g with ⟨_, ks, h1, _, q1⟩ | ⟨_, ks, h1, _, q1⟩
    · exact .inr (.inl ⟨a, ks, rfl, h1, by rw [q1.len]; exact q⟩)
    · exact .inr (.inr ⟨a, ks, rfl, h1, by rw [q1.len]; exact q⟩)
  | none =>
    rw [e] at h
    refine .inl ⟨v, ?_⟩
    have seq : (match seqD M d with
        | some ds => some (ds.length : Int)
        | none => none) = some n → ∃ n, [v] = [v] ∧ LenV X.K v H n ∧ k (.int n) H := fun h => by
      cases e1 : seqD M d with
      | none => rw [e1] at h; cases h
      | some ds =>
        rw [e1] at h; cases h
        obtain ⟨a, vs, rfl, hs, hz, q1⟩ := rep_seq ok r e1
        rw [hK]
        exact ⟨vs.length, rfl, hs.imp (fun s => ⟨vs, s, rfl⟩) fun s => ⟨vs, s, rfl⟩, by rw [q1.len]; exact q⟩
    cases d with
    | str z =>
      rw [rep_str r]
      simp only at h
      split at h
      · cases h
        exact ⟨z.length, rfl, ⟨by assumption, rfl⟩, q⟩
      · cases h
    | _ => exact seq h
theorem minI_le : ∀ (ns : List Int), ∀ y ∈ ns, minI ns ≤ y
  | [], _, h => nomatch h
  | [i], y, h => by simp at h; subst h; exact Int.le_refl _
  | i :: j :: r, y, h => by
    show min i (minI (j :: r)) ≤ y
    rcases List.mem_cons.mp h with e | h
    · subst e; exact Int.min_le_left _ _
    · exact Int.le_trans (Int.min_le_right _ _) (minI_le (j :: r) y h)
theorem minI_mem : ∀ (ns : List Int), ns ≠ [] → minI ns ∈ ns
  | [], h => absurd rfl h
  | [i], _ => by simp [minI]
  | i :: j :: r, _ => by
    show min i (minI (j :: r)) ∈ _
    have := minI_mem (j :: r) (by simp)
    rcases Int.le_total i (minI (j :: r)) with h | h
    · rw [Int.min_eq_left h]; exact List.mem_cons_self
    · rw [Int.min_eq_right h]; exact List.mem_cons_of_mem _ this
theorem maxI_le : ∀ (ns : List Int), ∀ y ∈ ns, y ≤ maxI ns
  | [], _, h => nomatch h
  | [i], y, h => by simp at h; subst h; exact Int.le_refl _
  | i :: j :: r, y, h => by
    show y ≤ max i (maxI (j :: r))
    rcases List.mem_cons.mp h with e | h
    · subst e; exact Int.le_max_left _ _
    · exact Int.le_trans (maxI_le (j :: r) y h) (Int.le_max_right _ _)
theorem maxI_mem : ∀ (ns : List Int), ns ≠ [] → maxI ns ∈ ns
  | [], h => absurd rfl h
  | [i], _ => by simp [maxI]
  | i :: j :: r, _ => by
    show max i (maxI (j :: r)) ∈ _
    have := maxI_mem (j :: r) (by simp)
    rcases Int.le_total i (maxI (j :: r)) with h | h
    · rw [Int.max_eq_right h]; exact List.mem_cons_of_mem _ this
    · rw [Int.max_eq_left h]; exact List.mem_cons_self
theorem sumI_eq : ∀ ns : List Int, sumI ns = ns.sum
  | [] => rfl
  | i :: r => by rw [List.sum_cons]; show i + sumI r = _; rw [sumI_eq r]
/-- the ints of a list handed in -/
theorem ints_arg (hK : X.K = c.K) {vs : List V} {H : Hp} {M : Mm} {d : D} {ds : List D} {is : List Int} (ok : Cells c H M) (r : Reps c H M vs [d]) (e : lstD M d = some ds) (e2 : intsD ds = some is) :
    ∃ a, vs = [V.ref a] ∧ SqL X.K H a (is.map V.int) := by
  obtain ⟨v, rfl, r0⟩ := reps1 r
  have r := r0
  obtain ⟨a, ws, rfl, ha, _, q⟩ := rep_lst ok r e
  rw [intsD_rep q e2] at ha
  exact ⟨a, rfl, SqL.of ha⟩
theorem bools_arg (hK : X.K = c.K) {vs : List V} {H : Hp} {M : Mm} {d : D} {ds : List D} {is : List Bool} (ok : Cells c H M) (r : Reps c H M vs [d]) (e : lstD M d = some ds) (e2 : boolsD ds = some is) :
    ∃ a, vs = [V.ref a] ∧ SqL X.K H a (is.map V.bl) := by
  obtain ⟨v, rfl, r0⟩ := reps1 r
  have r := r0
  obtain ⟨a, ws, rfl, ha, _, q⟩ := rep_lst ok r e
  rw [boolsD_rep q e2] at ha
  exact ⟨a, rfl, SqL.of ha⟩
/-- pairs -/
def pkV (H : Hp) : V → Int × Int
  | .ref t => match H t with
    | some (.tup [.int i, .int j]) => (i, j)
    | _ => (0, 0)
  | _ => (0, 0)
theorem prs_rep {H : Hp} {M : Mm} : ∀ {vs : List V} {ds : List D} {ps : List (Int × Int)}, Reps c H M vs ds → prs ds = some ps →
    (∀ x ∈ vs, ∃ t, x = V.ref t ∧ H t = some (.tup [.int (pkV H x).1, .int (pkV H x).2]) ∧ Rep c H M x (prD (pkV H x))) ∧ vs.map (pkV H) = ps
  | _, _, _, .nil, h => by cases h; exact ⟨fun x hx => (nomatch hx), rfl⟩
  | _, _, _, .cons (d := d) (ds := ds) (v := v) a r, h => by
    unfold prs at h
    split at h
    · rename_i heq; cases heq
    · rename_i i j r' heq
      cases heq
      split at h
      · rename_i qs e
        cases h
        obtain ⟨h1, h2⟩ := prs_rep r e
        cases a with
        | tup ha n z q =>
          rename_i t ws
          obtain ⟨w1, w2, rfl, r1, r2⟩ := reps2 q
          rw [rep_int r1, rep_int r2] at ha
          have ek : pkV H (.ref t) = (i, j) := by simp [pkV, ha]
          refine ⟨fun x hx => ?_, by rw [List.map_cons, h2, ek]⟩
          rcases List.mem_cons.mp hx with e | hx
          · subst e
            rw [ek]
            exact ⟨t, rfl, ha, .tup ha n (by show 2 ≤ sizeLine; decide) (.cons (.int i) (.cons (.int j) .nil))⟩
          · exact h1 x hx
      · cases h
    · cases h
theorem reps_map {H : Hp} {M : Mm} {f : V → D} : ∀ (vs : List V), (∀ x ∈ vs, Rep c H M x (f x)) → Reps c H M vs (vs.map f)
  | [], _ => .nil
  | v :: r, h => .cons (h v List.mem_cons_self) (reps_map r fun x hx => h x (List.mem_cons_of_mem _ hx))
theorem sort_sat (hK : X.K = c.K) {m : Bool} {vs : List V} {H : Hp} {M : Mm} {d : D} {Q : QD} {k : VK} (ok : Cells c H M) (r : Reps c H M vs [d])
    (h : obn (lstD M d) fun ds => obn (srtD ds) fun es => alL m es M Q) (hk : Cont c H M Q k) : rSortedI X.K vs H k ∨ rSortedPO X.K vs H k := by
  obtain ⟨v, rfl, r0⟩ := reps1 r
  have r := r0
  obtain ⟨ds, e, h⟩ := obn_of h
  obtain ⟨es, e2, h⟩ := obn_of h
  obtain ⟨a, ws, rfl, ha, hz, q⟩ := rep_lst ok r e
  unfold srtD at e2
  cases e3 : intsD ds with
  | some is =>
    rw [e3] at e2; cases e2
    have ew := intsD_rep q e3
    subst ew
    refine .inl ⟨a, is, rfl, SqL.of ha, fun ns' p hp hs hn => ?_⟩
    rw [sortI_uniq hp hs]
    have hl : (is.mergeSort fun a b => decide (a ≤ b)).length = is.length := (List.mergeSort_perm is _).length_eq
    exact al_ok ok (Reps.mapI _) (by rw [List.length_map, hl, ← List.length_map (f := V.int)]; exact hz) h hk p hn
  | none =>
    rw [e3] at e2
    cases e4 : prs ds with
    | none => rw [e4] at e2; cases e2
    | some ps =>
      rw [e4] at e2; cases e2
      obtain ⟨h1, h2⟩ := prs_rep q e4
      refine .inr ⟨a, ws, pkV H, rfl, SqL.of ha, fun x hx => let ⟨t, z1, z2, _⟩ := h1 x hx; ⟨t, z1, z2⟩, fun ys p hs hb hn => ?_⟩
      have hp : (ys.map (pkV H)).Perm ps := by rw [← h2]; exact hb.perm.map _
      have hs2 : (ys.map (pkV H)).Pairwise fun a b => leP a b = true := by
        refine List.pairwise_map.mpr (hs.imp fun {x y} z => ?_)
        have z : SrtO.lexB (pkV H y) (pkV H x) = false := z
        have z' : ¬ (SrtO.lexB (pkV H y) (pkV H x) = true) := by rw [z]; exact Bool.false_ne_true
        rw [SrtO.lexB_iff] at z'
        simp [leP]; omega
      have e5 := sortP_uniq hp hs2
      rw [← e5, List.map_map] at h
      have rr : Reps c H M ys (ys.map (prD ∘ pkV H)) := reps_map ys fun x hx => let ⟨_, _, _, z⟩ := h1 x (hb.perm.subset hx); z
      exact al_ok ok rr (by rw [hb.perm.length_eq]; exact hz) h hk p hn
theorem dkeys_K {H : Hp} {M : Mm} : ∀ {ks : List (Key × V)} {kvs : List (D × D)}, RepK c H M ks kvs → Reps c H M (ks.map fun kv => kV kv.1) (kvs.map (·.1))
  | _, _, .nil => .nil
  | _, _, .cons (k := k) a r => .cons (by cases k with | inl i => exact .int i | inr x => exact .str x) (dkeys_K r)
theorem reps_keys {H : Hp} {M : Mm} : ∀ (ks : List Key), Reps c H M (ks.map kV) (ks.map keyD)
  | [] => .nil
  | k :: r => .cons (by cases k with | inl i => exact .int i | inr x => exact .str x) (reps_keys r)
theorem dkeys_T {H : Hp} {M : Mm} (ok : Cells c H M) : ∀ {ks : List (List Key × V)} {kvs : List (D × D)} {bs : List Addr}, RepT c H M ks kvs → IsKeys H ks bs → Reps c H M (bs.map V.ref) (kvs.map (·.1)) ∧ bs.length = ks.length
  | _, _, _, .nil, hb => by cases hb; exact ⟨.nil, rfl⟩
  | _, _, _, .cons (k := k) z a r, hb => by
    cases hb with
    | cons hx hr =>
      obtain ⟨i1, i2⟩ := dkeys_T ok r hr
      refine ⟨.cons ?_ i1, by simp [i2]⟩
      rename_i b bs
      have hM : M b = none := by
        cases e : M b with
        | none => rfl
        | some x =>
          have := ok.at' b x e
          cases this with
          | lst h => rw [hx] at h; cases h
          | dK h => rw [hx] at h; cases h
          | dT h => rw [hx] at h; cases h
          | ins h => rw [hx] at h; cases h
      exact .tup hx ⟨hM, fun q => by rcases (ok.z b q).1 with ⟨_, w⟩ | ⟨_, w⟩ <;> (rw [hx] at w; cases w)⟩ (by rw [List.length_map]; exact z) (reps_keys k)
theorem CallR.no {f : Value} : CallR X f (fun _ _ _ => False) := fun _ _ _ _ _ _ _ _ _ h => h.elim
/-- a built-in: what it is, and its rule -/
theorem bi_ok (hK : X.K = c.K) (hc : X.calm = true) (m : Bool) (f : Bi) : ∃ (t : Bool) (id : String) (r : List V → Hp → VK → Prop),
    bootBuiltins f.s = some (if t = true then .type id else .builtin id) ∧ CallR X (if t = true then .type id else .builtin id) r ∧ BiSat c r (biD m f) := by
  cases f with
  | len =>
    refine ⟨false, "len", _, PySem.boot_len, call_len.or (call_lenR.or call_lenTR), fun Z vs H M ds Q k ok r h hk => ?_⟩
    match ds, h, r with
    | [d], h, r =>
      obtain ⟨n, e, h⟩ := obn_of h
      exact len_sat (c := c.z Z) hK ok r e (hk _ _ _ _ .refl ok (.int _) h)
  | all =>
    refine ⟨false, "all", _, PyProof.Rows.boot_all, cr_all hc, fun Z vs H M ds Q k ok r h hk => ?_⟩
    match ds, h, r with
    | [d], h, r =>
      obtain ⟨es, e, h⟩ := obn_of h
      obtain ⟨bs, e2, h⟩ := obn_of h
      obtain ⟨a, rfl, hs⟩ := bools_arg (c := c.z Z) hK ok r e e2
      exact ⟨a, bs, rfl, hs, hk _ _ _ _ .refl ok (.bl _) h⟩
  | any =>
    refine ⟨false, "any", _, PyProof.Rows.boot_any, cr_any hc, fun Z vs H M ds Q k ok r h hk => ?_⟩
    match ds, h, r with
    | [d], h, r =>
      obtain ⟨es, e, h⟩ := obn_of h
      obtain ⟨bs, e2, h⟩ := obn_of h
      obtain ⟨a, rfl, hs⟩ := bools_arg (c := c.z Z) hK ok r e e2
      exact ⟨a, bs, rfl, hs, hk _ _ _ _ .refl ok (.bl _) h⟩
  | sum =>
    refine ⟨false, "sum", _, PyProof.Rows.boot_sum, cr_sum hc, fun Z vs H M ds Q k ok r h hk => ?_⟩
    match ds, h, r with
    | [d], h, r =>
      obtain ⟨es, e, h⟩ := obn_of h
      obtain ⟨bs, e2, h⟩ := obn_of h
      obtain ⟨a, rfl, hs⟩ := ints_arg (c := c.z Z) hK ok r e e2
      rw [sumI_eq] at h
      exact ⟨a, bs, rfl, hs, hk _ _ _ _ .refl ok (.int _) h⟩
  | min =>
    refine ⟨false, "min", _, PyProof.Rows.boot_min, (cr_min hc).or (call_min2 hc), fun Z vs H M ds Q k ok r h hk => ?_⟩
    match ds, h, r with
    | [d], h, r =>
      obtain ⟨es, e, h⟩ := obn_of h
      obtain ⟨bs, e2, hl, h⟩ := obn_of h
      obtain ⟨a, rfl, hs⟩ := ints_arg (c := c.z Z) hK ok r e e2
      refine .inl ⟨a, bs, rfl, hs, hl, fun n hn hle => ?_⟩
      have : n = minI bs := Int.le_antisymm (hle _ (minI_mem bs fun z => by subst z; simp at hl)) (minI_le bs n hn)
      rw [this]
      exact hk _ _ _ _ .refl ok (.int _) h
    | [d, e], h, r =>
      obtain ⟨i, j, rfl, rfl, h⟩ := intQ_of h
      obtain ⟨v, w, rfl, r1, r2⟩ := reps2 r
      rw [rep_int r1, rep_int r2]
      exact .inr ⟨i, j, rfl, hk _ _ _ _ .refl ok (.int _) h⟩
  | max =>
    refine ⟨false, "max", _, PyProof.Rows.boot_max, (cr_max hc).or (call_max2 hc), fun Z vs H M ds Q k ok r h hk => ?_⟩
    match ds, h, r with
    | [d], h, r =>
      obtain ⟨es, e, h⟩ := obn_of h
      obtain ⟨bs, e2, hl, h⟩ := obn_of h
      obtain ⟨a, rfl, hs⟩ := ints_arg (c := c.z Z) hK ok r e e2
      refine .inl ⟨a, bs, rfl, hs, hl, fun n hn hle => ?_⟩
      have : n = maxI bs := Int.le_antisymm (maxI_le bs n hn) (hle _ (maxI_mem bs fun z => by subst z; simp at hl))
      rw [this]
      exact hk _ _ _ _ .refl ok (.int _) h
    | [d, e], h, r =>
      obtain ⟨i, j, rfl, rfl, h⟩ := intQ_of h
      obtain ⟨v, w, rfl, r1, r2⟩ := reps2 r
      rw [rep_int r1, rep_int r2]
      exact .inr ⟨i, j, rfl, hk _ _ _ _ .refl ok (.int _) h⟩
  | abs =>
    refine ⟨false, "abs", _, PyProof.Rows.boot_abs, call_abs, fun Z vs H M ds Q k ok r h hk => ?_⟩
    match ds, h, r with
    | [.int i], h, r =>
      obtain ⟨v, rfl, r0⟩ := reps1 r
      have r := r0
      rw [rep_int r]
      exact ⟨i, rfl, hk _ _ _ _ .refl ok (.int _) h⟩
  | int =>
    refine ⟨true, "int", _, PyProof.Rows.boot_int, call_int1.or call_int_str, fun Z vs H M ds Q k ok r h hk => ?_⟩
    match ds, h, r with
    | [.int i], h, r =>
      obtain ⟨v, rfl, r0⟩ := reps1 r
      have r := r0
      rw [rep_int r]
      exact .inl (.inl ⟨i, rfl, hk _ _ _ _ .refl ok (.int _) h⟩)
    | [.bl i], h, r =>
      obtain ⟨v, rfl, r0⟩ := reps1 r
      have r := r0
      rw [rep_bl r]
      exact .inl (.inr ⟨i, rfl, hk _ _ _ _ .refl ok (.int _) h⟩)
    | [.str x], h, r =>
      obtain ⟨v, rfl, r0⟩ := reps1 r
      have r := r0
      rw [rep_str r]
      obtain ⟨hl, h⟩ := h
      obtain ⟨n, e, h⟩ := obn_of h
      exact .inr ⟨x, n, rfl, e, hl, hk _ _ _ _ .refl ok (.int _) h⟩
  | str =>
    refine ⟨true, "str", _, PyProof.Rows.boot_str, call_str_int, fun Z vs H M ds Q k ok r h hk => ?_⟩
    match ds, h, r with
    | [.int i], h, r =>
      obtain ⟨v, rfl, r0⟩ := reps1 r
      have r := r0
      rw [rep_int r]
      exact ⟨i, rfl, h.1, hk _ _ _ _ .refl ok (.str _) h.2⟩
  | list =>
    refine ⟨true, "list", _, PyProof.Rows.boot_list, call_list_of.or ((call_listD hc).or (call_list_dT hc)), fun Z vs H M ds Q k ok r h hk => ?_⟩
    match ds, h, r with
    | [d], h, r =>
      obtain ⟨v, rfl, r0⟩ := reps1 r
      have r := r0
      change (match dctD M d with
        | some (_, kvs) => alL m (kvs.map (·.1)) M Q
        | none => obn (seqD M d) fun ds => alL m ds M Q) at h
      cases e : dctD M d with
      | some p =>
        obtain ⟨t, kvs⟩ := p
        rw [e] at h
        obtain ⟨a, rfl, g⟩ := rep_dct ok r e
        rcases g with ⟨_, ks, h1, z, q1⟩ | ⟨_, ks, h1, z, q1⟩
        · exact .inr (.inl ⟨a, ks, rfl, h1, al_ok ok (dkeys_K q1) (by rw [List.length_map]; exact z) h hk⟩)
        · refine .inr (.inr ⟨a, ks, rfl, h1, fun p bs hp hb => ?_⟩)
          obtain ⟨k1, k2⟩ := dkeys_T ok q1 hb
          exact al_ok ok k1 (by rw [List.length_map, k2]; exact z) h hk p hp
      | none =>
        rw [e] at h
        obtain ⟨es, e1, h⟩ := obn_of h
        obtain ⟨a, ws, rfl, hs, z, q1⟩ := rep_seq ok r e1
        exact .inl ⟨a, ws, rfl, by rw [hK]; exact hs, al_ok ok q1 z h hk⟩
  | tuple =>
    refine ⟨true, "tuple", _, PyProof.Rows.boot_tuple, call_tuple_of, fun Z vs H M ds Q k ok r h hk => ?_⟩
    match ds, h, r with
    | _ :: _ :: _, h, r => exact absurd h (by simp [biD])
    | [d], h, r =>
      obtain ⟨v, rfl, r0⟩ := reps1 r
      cases r0 with
      | tup h1 n z q => exact ⟨_, _, rfl, .inr ⟨SqT.of h1, hk _ _ _ _ .refl ok (.tup h1 n z q) h⟩⟩
      | lst h1 n z q => exact ⟨_, _, rfl, .inl ⟨SqL.of h1, tup_ok ok q z h hk⟩⟩
      | roL h1 z q => exact ⟨_, _, rfl, .inl ⟨by rw [hK]; exact KL.sq h1, tup_ok ok q z h hk⟩⟩
      | roT h1 z q => exact False.elim h
      | ref a =>
        have h : obn (seqD M (.ref a)) fun ds => Q (.tup ds) M := h
        obtain ⟨es, e1, h⟩ := obn_of h
        cases e2 : M a with
        | none => simp [seqD, e2] at e1
        | some x =>
          cases x with
          | lst es =>
            simp [seqD, e2] at e1; subst e1
            cases ok.at' a _ e2 with
            | lst h1 z q => exact ⟨a, _, rfl, .inl ⟨SqL.of h1, tup_ok ok q z h hk⟩⟩
          | _ => simp [seqD, e2] at e1
      | _ => exact absurd h (by simp [biD, obn, seqD])
  | dict =>
    refine ⟨true, "dict", _, PyProof.Rows.boot_dict, call_dictD, fun Z vs H M ds Q k ok r h hk => ?_⟩
    match ds, h, r with
    | [d], h, r =>
      obtain ⟨v, rfl, r0⟩ := reps1 r
      have r := r0
      obtain ⟨⟨t, kvs⟩, e, h1, h⟩ := obn_of h
      obtain rfl : t = false := h1
      obtain ⟨a, rfl, g⟩ := rep_dct ok r e
      rcases g with ⟨_, ks, h1, z, q1⟩ | ⟨z, _⟩
      · refine ⟨a, ks, rfl, h1, fun p hp => ?_⟩
        have hM : M p = none := ok.fresh hp
        cases m with
        | true =>
          have s := stp_newc (o := .dK ks) (x := .dct false kvs) ok hp
          exact hk _ _ _ _ s (cells_newc ok hp (.dK upd_same z (q1.view s.view))) (.ref p) (h p hM)
        | false =>
          have s := stp_new (o := .dK ks) ok hp
          exact hk _ _ _ _ s (cells_new ok hp) (.dK (.inl upd_same) (ok.free hp) z (q1.view s.view)) h
      · cases z
  | sorted =>
    refine ⟨false, "sorted", _, PyProof.Rows.boot_sorted, cr_sortedI.or cr_sortedPO, fun Z vs H M ds Q k ok r h hk => ?_⟩
    match ds, h, r with
    | [d], h, r => exact sort_sat (c := c.z Z) hK ok r h hk
  | minD => exact ⟨false, "min", _, PyProof.Rows.boot_min, CallR.no, fun Z vs H M ds Q k ok r h hk => False.elim h⟩
  | maxD => exact ⟨false, "max", _, PyProof.Rows.boot_max, CallR.no, fun Z vs H M ds Q k ok r h hk => False.elim h⟩
  | lenSet => exact ⟨false, "len", _, PySem.boot_len, CallR.no, fun Z vs H M ds Q k ok r h hk => False.elim h⟩
  | dict0 => exact ⟨true, "dict", _, PyProof.Rows.boot_dict, CallR.no, fun Z vs H M ds Q k ok r h hk => False.elim h⟩
end
end L3

set_option maxRecDepth 100000
set_option maxHeartbeats 4000000
namespace L3
open PySem L2
/-- an expression read as its shadow tells -/
def Snd (c : Cfg) (T : Tab) (N : List PySem.Str) (sc : Scope) (s : SE) (e : Expr) : Prop := ∀ X W, COk c T N sc X W →
  (∃ t, PE X e t ∧ SatE c W t (wE T s)) ∧ ∃ t, PT X e t ∧ SatT c W t (wE T s)
inductive SndL (c : Cfg) (T : Tab) (N : List PySem.Str) (sc : Scope) : List SE → List Expr → Prop
  | nil : SndL c T N sc [] []
  | cons {s : SE} {e : Expr} {ss : List SE} {es : List Expr} : Snd c T N sc s e → mE N s sc e = true → SndL c T N sc ss es → SndL c T N sc (s :: ss) (e :: es)
section
variable {X : Cx} {c : Cfg} {T : Tab} {N : List PySem.Str} {sc : Scope} {W : WX}
theorem SndL.m : ∀ {ss : List SE} {es : List Expr}, SndL c T N sc ss es → mEs N ss sc es = true
  | _, _, .nil => rfl
  | _, _, .cons a h r => by simp only [mEs, h, r.m, Bool.and_self]
theorem SndL.pa (O : COk c T N sc X W) : ∀ {ss : List SE} {es : List Expr}, SndL c T N sc ss es → ∃ t, PA X es t ∧ SatA c W t (wEs T ss)
  | _, _, .nil => ⟨_, pa_nil, fun Z σ H env M Q E k st h he hk => hk _ _ _ _ .refl st.cells .nil h⟩
  | _, _, .cons a h r => by
    obtain ⟨⟨t, h1, h2⟩, _⟩ := a X W O
    obtain ⟨u, g1, g2⟩ := r.pa O
    refine ⟨_, pa_cons h1 g1 (star_cons (mE_fine h)), fun Z σ H env M Q E k st q he hk => ?_⟩
    refine h2 Z σ H env M _ E _ st q he fun v H1 d M1 s1 ok1 r1 q1 => ?_
    refine g2 Z σ H1 env M1 _ E _ (st.stp s1 ok1) q1 (he.stp s1) fun vs H2 ds M2 s2 ok2 r2 q2 => ?_
    exact hk _ _ _ _ (s1.trans s2) ok2 (.cons (r1.stp s2) r2) q2
theorem Reps.emp {H : Hp} {M : Mm} {vs : List V} {ds : List D} (r : Reps c H M vs ds) : (!ds.isEmpty) = !vs.isEmpty := by cases r <;> rfl
theorem tru_rep (hK : X.K = c.K) {H : Hp} {M : Mm} {v : V} {d : D} {b : Bool} (ok : Cells c H M) (r : Rep c H M v d) (h : truD M d = some b) : TruV X.K v H b := by
  cases r with
  | non => cases h; rfl
  | bl _ => cases h; rfl
  | int i => cases h; rfl
  | lst h1 n z q => cases h; exact .inl ⟨_, SqL.of h1, q.emp⟩
  | tup h1 n z q => cases h; exact .inr (.inl ⟨_, SqT.of h1, q.emp⟩)
  | roL h1 z q => cases h; exact .inl ⟨_, by rw [hK]; exact KL.sq h1, q.emp⟩
  | roT h1 z q => cases h; exact .inr (.inl ⟨_, by rw [hK]; exact .inr h1, q.emp⟩)
  | ref a =>
    cases e : M a with
    | none => simp [truD, e] at h
    | some x => cases x with
      | lst ds =>
        have h : some (!ds.isEmpty) = some b := by rw [← h]; simp [truD, e]
        cases h
        cases ok.at' a _ e with
        | lst h1 z q => exact .inl ⟨_, SqL.of h1, q.emp⟩
      | _ => simp [truD, e] at h
  | _ => cases h
/-- an expression as a test -/
theorem test_of (O : COk c T N sc X W) {e : Expr} {t : TE} {w : WE} (ht : tstB e = true) (h : PE X e t) (s : SatE c W t w) : ∃ t, PT X e t ∧ SatT c W t w :=
  ⟨_, pt_truth h (tst_of ht), fun Z σ H env M Q E k st q he hk => by
    refine s Z σ H env M _ E _ st q he fun v H1 d M1 s1 ok1 r1 q1 => ?_
    obtain ⟨b, e1, q1⟩ := obn_of q1
    exact ⟨b, tru_rep (c := c.z Z) O.K ok1 r1 e1, hk _ _ _ s1 ok1 q1⟩⟩
theorem Snd.mk (O : COk c T N sc X W) {s : SE} {e : Expr} {t : TE} (ht : tstB e = true) (h : PE X e t) (hs : SatE c W t (wE T s)) :
    (∃ t, PE X e t ∧ SatE c W t (wE T s)) ∧ ∃ t, PT X e t ∧ SatT c W t (wE T s) := ⟨⟨t, h, hs⟩, test_of O ht h hs⟩
/-! ### leaves -/
theorem snd_non {j : Nat} {p : Pos} : Snd c T N sc .non (.Constant .none j p) := fun X W O => Snd.mk O rfl pe_non fun Z σ H env M Q E k st h he hk => hk _ _ _ _ .refl st.cells .non h
theorem snd_bl {b : Bool} {j : Nat} {p : Pos} : Snd c T N sc (.bl b) (.Constant (.bool b) j p) := fun X W O => Snd.mk O rfl pe_bl fun Z σ H env M Q E k st h he hk => hk _ _ _ _ .refl st.cells (.bl _) h
theorem snd_int {b : Int} {j : Nat} {p : Pos} : Snd c T N sc (.int b) (.Constant (.int b) j p) := fun X W O => Snd.mk O rfl pe_int fun Z σ H env M Q E k st h he hk => hk _ _ _ _ .refl st.cells (.int _) h
theorem snd_str {b : PySem.Str} {j : Nat} {p : Pos} : Snd c T N sc (.str b) (.Constant (.str b) j p) := fun X W O => Snd.mk O rfl pe_str fun Z σ H env M Q E k st h he hk => hk _ _ _ _ .refl st.cells (.str _) h
theorem nmB_of {x : PySem.Str} (h : nmB x = true) : (x == ("__debug__" : PySem.Str)) = false ∧ (x == ("__classdict__" : PySem.Str)) = false ∧ x ≠ "__name__" := by
  simp only [nmB, Bool.and_eq_true, Bool.not_eq_true'] at h
  exact ⟨h.1.1, h.1.2, fun e => by subst e; simp at h⟩
theorem vis_of {x : PySem.Str} (h : visB sc x = true) : Vis sc x := by
  unfold visB at h
  unfold Vis
  split at h <;> simp_all
theorem gl_of (O : COk c T N sc X W) {x : PySem.Str} (h : glB sc x = true) : Gl X x := by
  unfold glB at h
  show X.env.scope.names.lookup x = some .globalImplicit
  rw [O.sc]
  split at h
  · assumption
  · cases h
theorem snd_var {i : Nat} {x : PySem.Str} {p : Pos} (h : N[i]? = some x) (hv : visB sc x = true) (hn : nmB x = true) : Snd c T N sc (.var i) (.Name x p) := fun X W O => by
  obtain ⟨n1, n2, n3⟩ := nmB_of hn
  refine Snd.mk O rfl (pe_var (by rw [O.N]; exact h) (by rw [O.sc]; exact vis_of hv) n1 n2) fun Z σ H env M Q E k st h he hk => ?_
  obtain ⟨d, e, h⟩ := obn_of h
  unfold varE at e
  split at e
  · rename_i d' e'
    cases e
    obtain ⟨v, hv, r⟩ := st.env' i d e'
    exact ⟨v, hv, hk _ _ _ _ .refl st.cells r h⟩
  · cases e
theorem snd_gl {n : Nm} {p : Pos} (hg : glB sc n.s = true) (hn : nmB n.s = true) : Snd c T N sc (.gl n) (.Name n.s p) := fun X W O => by
  obtain ⟨n1, n2, n3⟩ := nmB_of hn
  cases e : lk T.gl n with
  | none =>
    refine Snd.mk (t := fun _ _ _ => False) O rfl ⟨fun _ _ _ _ _ _ h => h.elim⟩ fun Z σ H env M Q E k st h he hk => ?_
    obtain ⟨d, e1, h⟩ := obn_of h
    rw [e] at e1; cases e1
  | some d =>
    obtain ⟨u, v, hm, rv, rp⟩ := O.gl n d e
    refine Snd.mk O rfl (pe_glob (gl_of O hg) hm rv n1) fun Z σ H env M Q E k st h he hk => ?_
    obtain ⟨d', e1, h⟩ := obn_of h
    rw [e] at e1; cases e1
    exact hk _ _ _ _ .refl st.cells (rp Z H M) h
/-! ### operators -/
theorem snd_bin {op : Operator} {a b : SE} {l r : Expr} {p : Pos} (ha : Snd c T N sc a l) (hb : Snd c T N sc b r) : Snd c T N sc (.bin op a b) (.BinOp l op r p) := fun X W O => by
  obtain ⟨⟨ta, a1, a2⟩, _⟩ := ha X W O
  obtain ⟨⟨tb, b1, b2⟩, _⟩ := hb X W O
  obtain ⟨rr, r1, r2⟩ := bin_ok (X := X) O.K false op
  exact Snd.mk O rfl (pe_op r1 a1 b1) (sat_op r2 a2 b2)
theorem snd_cat {a b : SE} {l r : Expr} {p : Pos} (ha : Snd c T N sc a l) (hb : Snd c T N sc b r) : Snd c T N sc (.cat a b) (.BinOp l .Add r p) := fun X W O => by
  obtain ⟨⟨ta, a1, a2⟩, _⟩ := ha X W O
  obtain ⟨⟨tb, b1, b2⟩, _⟩ := hb X W O
  obtain ⟨rr, r1, r2⟩ := bin_ok (X := X) O.K true .Add
  exact Snd.mk O rfl (pe_op r1 a1 b1) (sat_op r2 a2 b2)
theorem snd_neg {a : SE} {l : Expr} {p : Pos} (ha : Snd c T N sc a l) : Snd c T N sc (.neg a) (.UnaryOp .USub l p) := fun X W O => by
  obtain ⟨⟨ta, a1, a2⟩, _⟩ := ha X W O
  refine Snd.mk O rfl (pe_un un_neg a1) fun Z σ H env M Q E k st h he hk => ?_
  refine a2 Z σ H env M _ E _ st h he fun v H1 d M1 s1 ok1 r1 q1 => ?_
  obtain ⟨i, e, q1⟩ := obn_of q1
  cases d with
  | int j =>
    cases e
    rw [rep_int r1]
    exact ⟨j, rfl, hk _ _ _ _ s1 ok1 (.int _) q1⟩
  | _ => cases e
theorem snd_not {a : SE} {l : Expr} {p : Pos} (ha : Snd c T N sc a l) : Snd c T N sc (.not a) (.UnaryOp .Not l p) := fun X W O => by
  obtain ⟨⟨ta, a1, a2⟩, tt, t1, t2⟩ := ha X W O
  refine ⟨⟨_, pe_notT a1, fun Z σ H env M Q E k st h he hk => ?_⟩, _, pt_not t1, fun Z σ H env M Q E k st h he hk => ?_⟩
  · refine a2 Z σ H env M _ E _ st h he fun v H1 d M1 s1 ok1 r1 q1 => ?_
    obtain ⟨b, e, q1⟩ := obn_of q1
    exact ⟨b, tru_rep (c := c.z Z) O.K ok1 r1 e, hk _ _ _ _ s1 ok1 (.bl _) q1⟩
  · refine t2 Z σ H env M (fun b M1 => Q (!b) M1) E _ st h he fun b H1 M1 s1 ok1 q1 => ?_
    exact hk _ _ _ s1 ok1 q1
theorem snd_cmp {op : CmpOp} {a b : SE} {l r : Expr} {p : Pos} (ha : Snd c T N sc a l) (hb : Snd c T N sc b r) (hf : fine r = true) : Snd c T N sc (.cmp op a b) (.Compare l [op] [r] p) := fun X W O => by
  obtain ⟨⟨ta, a1, a2⟩, _⟩ := ha X W O
  obtain ⟨⟨tb, b1, b2⟩, _⟩ := hb X W O
  obtain ⟨rr, r1, r2⟩ := cmp_ok (X := X) O.K O.hu op
  exact ⟨⟨_, pe_cmpR r1 a1 b1 (nobe hf), sat_cmp r2 a2 b2⟩, _, pt_cmpR r1 a1 b1 (nobe hf), sat_cmpT r2 a2 b2⟩
theorem snd_chain {o1 o2 : CmpOp} {a b d : SE} {l r s : Expr} {p : Pos} (ha : Snd c T N sc a l) (hb : Snd c T N sc b r) (hd : Snd c T N sc d s) (hf : fine s = true) :
    Snd c T N sc (.chain o1 o2 a b d) (.Compare l [o1, o2] [r, s] p) := fun X W O => by
  obtain ⟨⟨ta, a1, a2⟩, _⟩ := ha X W O
  obtain ⟨⟨tb, b1, b2⟩, _⟩ := hb X W O
  obtain ⟨⟨td, d1, d2⟩, _⟩ := hd X W O
  obtain ⟨rr, r1, r2⟩ := cmp_ok (X := X) O.K O.hu o1
  obtain ⟨rq, q1, q2⟩ := cmp_ok (X := X) O.K O.hu o2
  have hm : lastMarks [o1, o2] [r, s] = false := nobe hf
  have core : ∀ Z σ H env M Q E (k : VK), Sta (c.z Z) σ H env M → wE T (.chain o1 o2 a b d) env M Q E → Exc (c.z Z) W σ H M E →
      (∀ b H' M', Stp H M H' M' → Cells (c.z Z) H' M' → Q (.bl b) M' → k (.bl b) H') → tChain rr rq ta tb td σ H k := fun Z σ H env M Q E k st h he hk => by
    refine a2 Z σ H env M _ E _ st h he fun x H1 dx M1 s1 ok1 rx g1 => ?_
    refine b2 Z σ H1 env M1 _ E _ (st.stp s1 ok1) g1 (he.stp s1) fun y H2 dy M2 s2 ok2 ry g2 => ?_
    refine r2 Z x y H2 M2 dx dy _ _ ok2 (rx.stp s2) ry g2 fun bb qb => ⟨bb, rfl, ?_⟩
    cases bb with
    | true =>
      rw [if_pos rfl]
      refine d2 Z σ H2 env M2 _ E _ (st.stp (s1.trans s2) ok2) qb (he.stp (s1.trans s2)) fun u H3 du M3 s3 ok3 ru g3 => ?_
      exact q2 Z y u H3 M3 dy du _ _ ok3 (ry.stp s3) ru g3 fun b3 q3 => hk _ _ _ ((s1.trans s2).trans s3) ok3 q3
    | false =>
      rw [if_neg Bool.false_ne_true]
      exact hk _ _ _ (s1.trans s2) ok2 qb
  refine ⟨⟨_, pe_chain r1 q1 a1 b1 d1 hm, fun Z σ H env M Q E k st h he hk => ?_⟩, _, pt_chain r1 q1 a1 b1 d1 hm, fun Z σ H env M Q E k st h he hk => ?_⟩
  · exact core Z σ H env M Q E k st h he fun b H' M' s ok q => hk _ _ _ _ s ok (.bl b) q
  · exact core Z σ H env M _ E _ st h he fun b H' M' s ok q => ⟨b, rfl, hk _ _ _ s ok q⟩
end
end L3

set_option maxRecDepth 100000
set_option maxHeartbeats 4000000
namespace L3
open PySem L2
section
variable {X : Cx} {c : Cfg} {T : Tab} {N : List PySem.Str} {sc : Scope} {W : WX}
/-! ### and, or -/
theorem tru_eq (P : Mm → Prop) (k : Bool) (Q : Bool → Mm → Prop) : (fun (x : D) (M1 : Mm) => obn (truD M1 x) fun b => br (b == k) (P M1) (obn (truD M1 x) fun b => Q b M1)) = fun x M1 => obn (truD M1 x) fun b => br (b == k) (P M1) (Q b M1) := by
  funext x M1
  cases e : truD M1 x with
  | none => rfl
  | some b => rfl
theorem SndL.bop (O : COk c T N sc X W) (k : Bool) {p : Pos} : ∀ {ss : List SE} {es : List Expr}, SndL c T N sc ss es →
    (∃ t, PE X (.BoolOp (if k = true then .And else .Or) es p) t ∧ SatE c W t (wBop T k ss)) ∧ (∃ t, PW X (.BoolOp (if k = true then .And else .Or) es p) t ∧ SatT c W t (wBop T k ss))
  | _, _, .nil => by
    refine ⟨⟨fun _ _ _ => False, ⟨fun _ _ _ _ _ _ h => h.elim⟩, fun _ _ _ _ _ _ _ _ _ h _ _ => (show False from h).elim⟩, ⟨fun _ _ _ => False, ⟨fun _ _ _ _ _ _ _ h => h.elim⟩, fun _ _ _ _ _ _ _ _ _ h _ _ => (show False from h).elim⟩⟩
  | _, _, .cons a h .nil => by
    obtain ⟨⟨t, h1, h2⟩, u, g1, g2⟩ := a X W O
    refine ⟨⟨t, pe_one h1, h2⟩, u, ?_, g2⟩
    cases k with
    | true => exact pw_and1 g1
    | false => exact pw_or1 g1
  | _, _, .cons (s := s) a h (.cons (s := s') (ss := r) b hb q) => by
    obtain ⟨⟨t, h1, h2⟩, u, g1, g2⟩ := a X W O
    obtain ⟨⟨t', i1, i2⟩, u', j1, j2⟩ := (SndL.cons b hb q).bop O k (p := p)
    cases k with
    | true =>
      refine ⟨⟨_, pe_andT h1 i1, fun Z σ H env M Q E k st q he hk => ?_⟩, _, pw_and g1 j1, fun Z σ H env M Q E k st q he hk => ?_⟩
      · refine h2 Z σ H env M _ E _ st q he fun v H1 d M1 s1 ok1 r1 q1 => ?_
        obtain ⟨b, e, q1⟩ := obn_of q1
        refine ⟨b, tru_rep (c := c.z Z) O.K ok1 r1 e, ?_⟩
        cases b with
        | true => rw [if_pos rfl]; exact i2 Z σ H1 env M1 Q E k (st.stp s1 ok1) q1 (he.stp s1) (hk.stp s1)
        | false => rw [if_neg Bool.false_ne_true]; exact hk _ _ _ _ s1 ok1 r1 q1
      · change wE T s env M (fun x M1 => obn (truD M1 x) fun b => br (b == true) (wBop T true (s' :: r) env M1 (fun d M' => obn (truD M' d) fun b => Q b M') E) (obn (truD M1 x) fun b => Q b M1)) E at q
        rw [tru_eq (fun M1 => wBop T true (s' :: r) env M1 (fun d M' => obn (truD M' d) fun b => Q b M') E) true Q] at q
        refine g2 Z σ H env M _ E _ st q he fun b H1 M1 s1 ok1 q1 => ?_
        cases b with
        | true => rw [if_pos rfl]; exact j2 Z σ H1 env M1 Q E k (st.stp s1 ok1) q1 (he.stp s1) (hk.stp s1)
        | false => rw [if_neg Bool.false_ne_true]; exact hk _ _ _ s1 ok1 q1
    | false =>
      refine ⟨⟨_, pe_orT h1 i1, fun Z σ H env M Q E k st q he hk => ?_⟩, _, pw_or g1 j1, fun Z σ H env M Q E k st q he hk => ?_⟩
      · refine h2 Z σ H env M _ E _ st q he fun v H1 d M1 s1 ok1 r1 q1 => ?_
        obtain ⟨b, e, q1⟩ := obn_of q1
        refine ⟨b, tru_rep (c := c.z Z) O.K ok1 r1 e, ?_⟩
        cases b with
        | false => rw [if_neg Bool.false_ne_true]; exact i2 Z σ H1 env M1 Q E k (st.stp s1 ok1) q1 (he.stp s1) (hk.stp s1)
        | true => rw [if_pos rfl]; exact hk _ _ _ _ s1 ok1 r1 q1
      · change wE T s env M (fun x M1 => obn (truD M1 x) fun b => br (b == false) (wBop T false (s' :: r) env M1 (fun d M' => obn (truD M' d) fun b => Q b M') E) (obn (truD M1 x) fun b => Q b M1)) E at q
        rw [tru_eq (fun M1 => wBop T false (s' :: r) env M1 (fun d M' => obn (truD M' d) fun b => Q b M') E) false Q] at q
        refine g2 Z σ H env M _ E _ st q he fun b H1 M1 s1 ok1 q1 => ?_
        cases b with
        | false => rw [if_neg Bool.false_ne_true]; exact j2 Z σ H1 env M1 Q E k (st.stp s1 ok1) q1 (he.stp s1) (hk.stp s1)
        | true => rw [if_pos rfl]; exact hk _ _ _ s1 ok1 q1
theorem snd_bop {k : Bool} {ss : List SE} {es : List Expr} {p : Pos} (h : SndL c T N sc ss es) : Snd c T N sc (.bop k ss) (.BoolOp (if k = true then .And else .Or) es p) := fun X W O =>
  let ⟨h1, u, g1, g2⟩ := h.bop O k (p := p)
  ⟨h1, u, g1.pt, g2⟩
/-! ### subscripts, slices, fields -/
theorem snd_ix {a i : SE} {l r : Expr} {p : Pos} (ha : Snd c T N sc a l) (hb : Snd c T N sc i r) (hf : fine r = true) : Snd c T N sc (.ix a i) (.Subscript l r p) := fun X W O => by
  obtain ⟨⟨ta, a1, a2⟩, _⟩ := ha X W O
  obtain ⟨⟨tb, b1, b2⟩, _⟩ := hb X W O
  obtain ⟨rr, r1, r2⟩ := ix_ok (X := X) O.K O.hu
  exact Snd.mk O rfl (pe_ix r1 a1 b1 (plainIx hf)) (sat_op r2 a2 b2)
/-- a slice's end -/
def SndO (c : Cfg) (T : Tab) (N : List PySem.Str) (sc : Scope) (s : SE) (e : Option Expr) : Prop := (e = none ∧ s = .non) ∨ ∃ e', e = some e' ∧ isNon s = false ∧ Snd c T N sc s e'
theorem SndO.ok (O : COk c T N sc X W) {s : SE} {e : Option Expr} (h : SndO c T N sc s e) : ∃ t, PO X e t ∧ ∀ Z σ H env M (Q : Option Int → Mm → Prop) E (k : Option Int → Hp → Prop), Sta (c.z Z) σ H env M →
    wE T s env M (fun d M' => obn (endD s d) fun o => Q o M') E → Exc (c.z Z) W σ H M E → (∀ o H' M', Stp H M H' M' → Cells (c.z Z) H' M' → Q o M' → k o H') → t σ H k := by
  rcases h with ⟨rfl, rfl⟩ | ⟨e', rfl, hn, h⟩
  · exact ⟨_, po_none, fun Z σ H env M Q E k st h he hk => hk none H M .refl st.cells h⟩
  · obtain ⟨⟨t, h1, h2⟩, _⟩ := h X W O
    refine ⟨_, po_some h1, fun Z σ H env M Q E k st h he hk => ?_⟩
    refine h2 Z σ H env M _ E _ st h he fun v H1 d M1 s1 ok1 r1 q1 => ?_
    obtain ⟨o, e, q1⟩ := obn_of q1
    unfold endD at e
    rw [hn] at e
    cases d with
    | int i =>
      cases e
      rw [rep_int r1]
      exact ⟨i, rfl, hk _ _ _ s1 ok1 q1⟩
    | _ => cases e
theorem snd_sl {a lo hi : SE} {l : Expr} {u w : Option Expr} {p p2 : Pos} (ha : Snd c T N sc a l) (hl : SndO c T N sc lo u) (hh : SndO c T N sc hi w) : Snd c T N sc (.sl a lo hi) (.Subscript l (.Slice u w none p2) p) := fun X W O => by
  obtain ⟨⟨ta, a1, a2⟩, _⟩ := ha X W O
  obtain ⟨tl, l1, l2⟩ := hl.ok O
  obtain ⟨th, g1, g2⟩ := hh.ok O
  refine Snd.mk O rfl (pe_slice sl_U a1 l1 g1) fun Z σ H env M Q E k st h he hk => ?_
  refine a2 Z σ H env M _ E _ st h he fun x H1 dx M1 s1 ok1 r1 q1 => ?_
  refine l2 Z σ H1 env M1 _ E _ (st.stp s1 ok1) q1 (he.stp s1) fun lo H2 M2 s2 ok2 q2 => ?_
  refine g2 Z σ H2 env M2 _ E _ (st.stp (s1.trans s2) ok2) q2 (he.stp (s1.trans s2)) fun hi H3 M3 s3 ok3 q3 => ?_
  exact sl_sat (c := c.z Z) O.K ok3 (r1.stp (s2.trans s3)) q3 (hk.stp ((s1.trans s2).trans s3))
theorem lk_mem {α : Type} : ∀ {l : List (Nm × α)} {n : Nm} {d : α}, lk l n = some d → ∃ p ∈ l, p.1 = n
  | [], _, _, h => by cases h
  | (a, b) :: r, n, d, h => by
    by_cases e : a = n
    · exact ⟨(a, b), List.mem_cons_self, e⟩
    · have h : lk r n = some d := by rw [← h]; simp [lk, e]
      obtain ⟨p, hp, q⟩ := lk_mem h
      exact ⟨p, List.mem_cons_of_mem _ hp, q⟩
theorem nodup_s {l : List Nm} (h : (l.map Nm.s).Nodup) {a b : Nm} (ha : a ∈ l) (hb : b ∈ l) (e : a.s = b.s) : a = b := by
  induction l with
  | nil => cases ha
  | cons x r ih =>
    simp only [List.map_cons, List.nodup_cons] at h
    by_cases e1 : a = x
    · by_cases e2 : b = x
      · rw [e1, e2]
      · exact absurd (List.mem_map.mpr ⟨b, (List.mem_cons.mp hb).resolve_left e2, by rw [← e, e1]⟩) h.1
    · by_cases e2 : b = x
      · exact absurd (List.mem_map.mpr ⟨a, (List.mem_cons.mp ha).resolve_left e1, by rw [e, e2]⟩) h.1
      · exact ih h.2 ((List.mem_cons.mp ha).resolve_left e1) ((List.mem_cons.mp hb).resolve_left e2)
theorem getF_rep {l : List Nm} (nd : (l.map Nm.s).Nodup) {f : Nm} (hf : f ∈ l) {H : Hp} {M : Mm} : ∀ {vs : List (PySem.Str × V)} {fs : List (Nm × D)}, RepF c H M vs fs → (∀ p ∈ fs, p.1 ∈ l) → ∀ {d : D}, getF fs f = some d → ∃ v, vs.lookup f.s = some v ∧ Rep c H M v d
  | _, _, .nil, _, d, h => by cases h
  | _, _, .cons (n := n) (v := v) (d := d) (vs := vs) (fs := fs) a r, hk, e, h => by
    by_cases q : n = f
    · subst q
      have h : some d = some e := by rw [← h]; simp [getF, lk]
      cases h
      exact ⟨v, by simp [List.lookup], a⟩
    · have h : getF fs f = some e := by rw [← h]; simp [getF, lk, q]
      obtain ⟨w, h1, h2⟩ := getF_rep nd hf r (fun p hp => hk p (List.mem_cons_of_mem _ hp)) h
      refine ⟨w, ?_, h2⟩
      have ne : (f.s == n.s) = false := by
        rw [beq_eq_false_iff_ne]
        exact fun e => q (nodup_s nd (hk _ List.mem_cons_self) hf e.symm)
      simp [List.lookup, ne, h1]
theorem lookF_none {m : PySem.Str} {H : Hp} {M : Mm} : ∀ {vs : List (PySem.Str × V)} {fs : List (Nm × D)}, RepF c H M vs fs → (∀ p ∈ fs, p.1.s ≠ m) → vs.lookup m = none
  | _, _, .nil, _ => rfl
  | _, _, .cons (n := n) a r, hk => by
    have ne : (m == n.s) = false := by
      rw [beq_eq_false_iff_ne]
      exact fun e => hk _ List.mem_cons_self e.symm
    simp [List.lookup, ne, lookF_none r fun p hp => hk p (List.mem_cons_of_mem _ hp)]
theorem snd_fld {a : SE} {l : Expr} {f : Nm} {p : Pos} (ha : Snd c T N sc a l) (hs : supB l = true) : Snd c T N sc (.fld a f) (.Attribute l f.s p) := fun X W O => by
  obtain ⟨⟨ta, a1, a2⟩, _⟩ := ha X W O
  refine Snd.mk O rfl (pe_fld a1 (attrB hs)) fun Z σ H env M Q E k st h he hk => ?_
  refine a2 Z σ H env M _ E _ st h he fun v H1 d M1 s1 ok1 r1 q1 => ?_
  obtain ⟨e, e1, q2⟩ := obn_of q1
  unfold fldD at e1
  cases e2 : insD M1 d with
  | some q =>
    obtain ⟨n, fs⟩ := q
    rw [e2] at e1
    obtain ⟨a, C, dx, vs, rfl, g1, g2, g3, g4⟩ := rep_ins ok1 r1 e2
    obtain ⟨nd, na⟩ := O.fl n C g2
    obtain ⟨q, hq, rfl⟩ := lk_mem e1
    obtain ⟨w, w1, w2⟩ := getF_rep nd (g3 q hq) g4 g3 e1
    exact ⟨a, C, dx, vs, w, rfl, g1, O.cls n C g2, na _ (g3 q hq), w1, hk _ _ _ _ s1 ok1 w2 q2⟩
  | none =>
    rw [e2] at e1
    cases e1
/-! ### displays -/
theorem le1000 {n : Nat} (h : n ≤ 1000) : n ≤ sizeLine := Nat.le_trans h (by decide)
theorem snd_lst {m : Bool} {ss : List SE} {es : List Expr} {p : Pos} (h : SndL c T N sc ss es) : Snd c T N sc (.lst m ss) (.List es p) := fun X W O => by
  obtain ⟨t, h1, h2⟩ := h.pa O
  refine Snd.mk O rfl (pe_lst h1) fun Z σ H env M Q E k st q he hk => ?_
  refine h2 Z σ H env M _ E _ st q he fun vs H1 ds M1 s1 ok1 r1 q1 => ?_
  have hl : vs.length ≤ sizeLine := le1000 (by rw [r1.len]; exact q1.1)
  exact ⟨hl, al_ok ok1 r1 hl q1.2 (hk.stp s1)⟩
theorem snd_tup {ss : List SE} {es : List Expr} {p : Pos} {kk : Nat} (h : SndL c T N sc ss es) : Snd c T N sc (.tup ss) (.Tuple es kk p) := fun X W O => by
  obtain ⟨t, h1, h2⟩ := h.pa O
  refine Snd.mk O rfl (pe_tup h1) fun Z σ H env M Q E k st q he hk => ?_
  refine h2 Z σ H env M _ E _ st q he fun vs H1 ds M1 s1 ok1 r1 q1 => ?_
  have hl : vs.length ≤ sizeLine := le1000 (by rw [r1.len]; exact q1.1)
  exact ⟨hl, tup_ok ok1 r1 hl q1.2 (hk.stp s1)⟩
theorem snd_dnew {m t : Bool} {p : Pos} : Snd c T N sc (.dnew m t) (.Dict [] [] p) := fun X W O => by
  cases t with
  | false =>
    refine Snd.mk O rfl pe_dnewK fun Z σ H env M Q E k st q he hk => fun p hp => ?_
    have hM : M p = none := st.cells.fresh hp
    cases m with
    | true => exact hk _ _ _ _ (stp_newc st.cells hp) (cells_newc st.cells hp (.dK upd_same (Nat.zero_le _) .nil)) (.ref p) (q p hM)
    | false => exact hk _ _ _ _ (stp_new st.cells hp) (cells_new st.cells hp) (.dK (.inl upd_same) (st.cells.free hp) (Nat.zero_le _) .nil) q
  | true =>
    refine Snd.mk O rfl pe_dnewT fun Z σ H env M Q E k st q he hk => fun p hp => ?_
    have hM : M p = none := st.cells.fresh hp
    cases m with
    | true => exact hk _ _ _ _ (stp_newc st.cells hp) (cells_newc st.cells hp (.dT upd_same (Nat.zero_le _) .nil)) (.ref p) (q p hM)
    | false => exact hk _ _ _ _ (stp_new st.cells hp) (cells_new st.cells hp) (.dT (.inl upd_same) (st.cells.free hp) (Nat.zero_le _) .nil) q
/-! ### what a call tells -/
theorem stp_del {H : Hp} {M : Mm} {a : Addr} : Stp H M H (del M a) := ⟨fun _ _ h _ => h, fun b _ h => by
  by_cases e : b = a
  · subst e; exact del_same
  · rw [del_ne e]; exact h⟩
theorem cells_del {H : Hp} {M : Mm} {a : Addr} (ok : Cells c H M) : Cells c H (del M a) := ⟨fun b x e => by
  have hb : b ≠ a := fun z => by subst z; rw [del_same] at e; cases e
  rw [del_ne hb] at e
  exact (ok.at' b x e).view stp_del.view rfl, fun b z => ⟨(ok.z b z).1, (stp_del (H := H) (M := M) (a := a)).nn b (let ⟨o, h⟩ := (ok.z b z).1.there; by rw [h]; exact fun q => nomatch q) (ok.z b z).2⟩⟩
theorem Cells.cellFr {H : Hp} {M : Mm} {a : Addr} {x : Cell} (ok : Cells c H M) (e : M a = some x) : Fr c (del M a) a := ⟨del_same, fun z => by
  have := (ok.z a z).2
  rw [e] at this; cases this⟩
/-- a cell seen as data from now on -/
def celD : Cell → D
  | .lst ds => .lst ds
  | .dct t kvs => .dct t kvs
  | .ins n fs => .ins n fs
theorem rep_frz {H : Hp} {M : Mm} {a : Addr} {x : Cell} (ok : Cells c H M) (e : M a = some x) : Rep c H (del M a) (.ref a) (celD x) := by
  cases ok.at' a x e with
  | lst h z r => exact .lst h (ok.cellFr e) z (r.view stp_del.view)
  | dK h z r => exact .dK (.inl h) (ok.cellFr e) z (r.view stp_del.view)
  | dT h z r => exact .dT (.inl h) (ok.cellFr e) z (r.view stp_del.view)
  | ins h z k r => exact .ins h (ok.cellFr e) z k (r.view stp_del.view)
theorem frz_sat {H : Hp} {M : Mm} {m : Bool} {v : V} {d : D} {Q : QD} {k : VK} (ok : Cells c H M) (r : Rep c H M v d) (h : frz1 m d M Q) (hk : Cont c H M Q k) : k v H := by
  cases m with
  | true => exact hk _ _ _ _ .refl ok r h
  | false =>
    cases d with
    | ref a =>
      cases e : M a with
      | none =>
        have h : Q (.ref a) M := by simpa [frz1, e] using h
        exact hk _ _ _ _ .refl ok r h
      | some x =>
        have h : Q (celD x) (del M a) := by cases x <;> simpa [frz1, e, celD] using h
        cases r
        exact hk _ _ _ _ stp_del (cells_del ok) (rep_frz ok e) h
    | _ => exact hk _ _ _ _ .refl ok r h
end
end L3

set_option maxRecDepth 100000
set_option maxHeartbeats 4000000
namespace L3
open PySem L2
section
variable {X : Cx} {c : Cfg} {T : Tab} {N : List PySem.Str} {sc : Scope} {W : WX}
/-! ### calls of one's own defs -/
/-- the arguments of a call, whichever: the reading, and the call behind it -/
theorem SndL.args (O : COk c T N sc X W) {ss : List SE} {es : List Expr} (h : SndL c T N sc ss es) : ∃ t, SatA c W t (wEs T ss) ∧
    ∀ (f : Value) (first : List Value) (pos : Pos) (pins : List (Addr × Obj)) (s : Shared) (σ : St) (H : Hp) (R : List V → Hp → Prop) (Q : Value → Shared → Prop), PySem.W.keepIn X.K f = true → Inv X pins σ H s → t σ H R →
      (∀ us s2 vs H2, Inv X pins σ H2 s2 → Vals vs us → R vs H2 → wpAny (model X.prog X.w) X.A (call f (first ++ us)) Q X.xe s2) →
      wpAny (model X.prog X.w) X.A (callWith pos f first (backTo pos (starEach es X.env)) (backToKw pos (keywordEach [] X.env))) Q X.xe s := by
  cases h with
  | nil => exact ⟨tNil, fun Z σ H env M Q E k st h he hk => hk _ _ _ _ .refl st.cells .nil h, fun f first pos pins s σ H R Q hk I q run => PySem.W.callWith_K0 I.kIn hk (run [] s [] H I .nil q)⟩
  | cons a ha r =>
    obtain ⟨t, h1, h2⟩ := (SndL.cons a ha r).pa O
    exact ⟨t, h2, fun f first pos pins s σ H R Q hk I q run => PySem.W.callWith_K (h₀ := X.base) I.ok.mod.kin hk
      (thn (h1.run pos pins s σ H _ I q) fun us s1 ⟨vs, H1, I1, rv, q1⟩ => ⟨I1.kIn, run us s1 vs H1 I1 rv q1⟩) (star_cons (mE_fine ha)) (mEs_any r.m pos X.env)⟩
/-- a contract used where its wants are known -/
theorem sp_use {Z : Addr → Prop} {sp : SpD} {m : Bool} {σ : St} {H : Hp} {M : Mm} {vs : List V} {ds : List D} {Q : QD} {E : QX} {k : VK} (ok : Cells (c.z Z) H M) (r : Reps (c.z Z) H M vs ds) (h : ap sp ds M (fun d M2 => frz1 m d M2 Q) E)
    (he : Exc (c.z Z) W σ H M E) (hk : Cont (c.z Z) H M Q k) : toSp c sp vs H k (L2.WE W σ) :=
  ⟨Z, ds, M, _, E, r, ok, h, fun v H' d M' s ok' r' q => frz_sat ok' r' q (hk.stp s), fun cls dd H' x M' s ok' xr e => he cls dd H' x M' s ok' xr e⟩
theorem snd_no {s : SE} {e : Expr} (O : COk c T N sc X W) (ht : tstB e = true) (h : ∀ env M Q E, ¬ wE T s env M Q E) : (∃ t, PE X e t ∧ SatE c W t (wE T s)) ∧ ∃ t, PT X e t ∧ SatT c W t (wE T s) :=
  Snd.mk (t := fun _ _ _ => False) O ht ⟨fun _ _ _ _ _ _ h => h.elim⟩ fun Z σ H env M Q E k st q he hk => (h _ _ _ _ q).elim
/-- arguments, and what follows that has no way -/
theorem snd_call {m : Bool} {n : Nm} {ss : List SE} {es : List Expr} {p pos : Pos} (hh : c.hot = false) (h : SndL c T N sc ss es) (hg : glB sc n.s = true) (hn : nmB n.s = true) : Snd c T N sc (.call m n ss) (.Call (.Name n.s p) es [] pos) := fun X W O => by
  obtain ⟨n1, n2, n3⟩ := nmB_of hn
  obtain ⟨t, h2, run⟩ := h.args O
  cases e : lk T.fn n with
  | none =>
    refine snd_no O rfl fun env M Q E q => ?_
    change obn (lk T.fn n) _ at q
    rw [e] at q; exact q
  | some sp =>
    obtain ⟨f, fd, kk, ps, F, hr, hm, hk, hb⟩ := O.fn hh n sp e
    refine Snd.mk (t := fun σ H Q => t σ H fun vs H1 => toSp c sp vs H1 Q (L2.WE W σ)) O rfl ⟨fun pins s σ H Q I q => ?_⟩ fun Z σ H env M Q E k st q he hk => ?_
    · refine wpAny_Call_Name_kw (ld_glob I (gl_of O hg) hm ?_ n1)
      exact run (.ref f) [] pos pins s σ H _ _ hk I q fun us s2 vs H2 I2 rv q2 => run_fnS (E := L2.WE W) F hr hb (passAt O.tk σ) I2 rv q2
    · have q : obn (lk T.fn n) fun sp => wEs T ss env M (fun ds M1 => ap sp ds M1 (fun d M2 => frz1 m d M2 Q) E) E := q
      rw [e] at q
      refine h2 Z σ H env M _ E _ st q he fun vs H1 ds M1 s1 ok1 r1 q1 => ?_
      exact sp_use ok1 r1 q1 (he.stp s1) (hk.stp s1)
/-! ### own methods -/
theorem meth_eval {o : Expr} {m : PySem.Str} {apos pos : Pos} {args : List Expr} {env : PySem.Env} (h1 : attributeBase o m env (eval o env) = eval o env)
    (h2 : methodCallForm (args.length + 0) (backTo pos (starEach args env)) [] = true) (h3 : (apos.endLine == pos.line) = true) :
    eval (.Call (.Attribute o m apos) args [] pos) env = (do
      let ov ← eval o env
      standAt apos.atName
      let (f, first) ← holding [ov] (getMethod ov m (do return (← importBound o env).getD true))
      callWith pos f first (backTo pos (starEach args env)) (backToKw pos (keywordEach [] env))) := by
  show (do
    let ov ← attributeBase o m env (eval o env)
    standAt apos.atName
    methodCall o m apos pos env ov (args.length + 0) (backTo pos (starEach args env)) (backToKw pos (keywordEach [] env))) = _
  rw [h1]
  unfold methodCall
  show (do
    let ov ← eval o env
    standAt apos.atName
    let (f, first) ← holding [ov] (calleeOf (methodCallForm (args.length + 0) (backTo pos (starEach args env)) []) o env ov m)
    let callPos ← methodCallPos (methodCallForm (args.length + 0) (backTo pos (starEach args env)) []) o env apos pos
    callWith callPos f first (backTo pos (starEach args env)) []) = _
  rw [h2]
  unfold methodCallPos calleeOf
  rw [h3]
  rfl
theorem form_ok {ss : List SE} {es : List Expr} (h : mEs N ss sc es = true) (hl : es.length < 29) (pos : Pos) (env : PySem.Env) : methodCallForm (es.length + 0) (backTo pos (starEach es env)) [] = true := by
  have h1 : (backTo pos (starEach es env)).all (!·.1) = true := by
    have := mEs_any h pos env
    rw [List.all_eq_not_any_not]
    simpa using this
  unfold methodCallForm
  rw [h1]
  simp
  omega
theorem snd_meth {m : Bool} {a : SE} {n : Nm} {ss : List SE} {o : Expr} {es : List Expr} {p pos : Pos} (hh : c.hot = false) (ha : Snd c T N sc a o) (h : SndL c T N sc ss es) (hs : supB o = true) (hp : (p.endLine == pos.line) = true) (hl : es.length < 29) :
    Snd c T N sc (.meth m a n ss) (.Call (.Attribute o n.s p) es [] pos) := fun X W O => by
  obtain ⟨⟨ta, a1, a2⟩, _⟩ := ha X W O
  obtain ⟨t, h2, run⟩ := h.args O
  refine Snd.mk (t := fun σ H Q => ta σ H fun x H1 => ∃ a C dx fs g, x = .ref a ∧ H1 a = some (.ins C dx fs) ∧ Cls X.K C ∧ Meth X.K C n.s g ∧ fs.lookup n.s = none ∧
    ∃ fd kk ps sp, FnOk X.prog X.w X.K X.mg X.base (CX X.prog X.w) kk g fd ps (toSp c sp) ∧ Room kk X.A ∧ Binds X.K fd ps [] ∧ t σ H1 fun vs H2 => toSp c sp (.ref a :: vs) H2 Q (L2.WE W σ)) O rfl ⟨fun pins s σ H Q I q => ?_⟩ fun Z σ H env M Q E k st q he hk => ?_
  · refine PySem.W.methodCall_KW (thn (a1.run pins s σ H _ I q) fun u s1 ⟨x, H1, I1, rx, a, C, dx, fs, g, ex, ea, cl, hm, l, fd, kk, ps, sp, F, hr, hb, q1⟩ => ?_) (meth_eval (attrB hs) (form_ok h.m hl pos X.env) hp)
    subst ex; obtain rfl : u = Value.ref a := rx
    refine getmeth_ok I1 ea cl hm l ?_
    exact run (.ref g) [.ref a] pos pins s1 σ H1 _ _ hm.kp I1 q1 fun us s2 vs H2 I2 rv q2 => run_fnS (us := .ref a :: us) (vs := .ref a :: vs) (E := L2.WE W) F hr hb (passAt O.tk σ) I2 (.cons (show RelV (.ref a) (.ref a) from rfl) rv) q2
  · refine a2 Z σ H env M _ E _ st q he fun v H1 d M1 s1 ok1 r1 q1 => ?_
    obtain ⟨⟨n', fs⟩, e1, q1⟩ := obn_of q1
    obtain ⟨sp, e2, q1⟩ := obn_of q1
    obtain ⟨a, C, dx, vs, rfl, g1, g2, g3, g4⟩ := rep_ins ok1 r1 e1
    obtain ⟨f, fd, kk, ps, F, hr, hm, hb⟩ := O.mt hh n' n sp e2 C g2
    refine ⟨a, C, dx, vs, f, rfl, g1, O.cls n' C g2, hm, lookF_none g4 fun p hp => O.flM n' n sp e2 _ (g3 p hp), fd, kk, ps, sp, F, hr, hb, ?_⟩
    refine h2 Z σ H1 env M1 _ E _ (st.stp s1 ok1) q1 (he.stp s1) fun vs H2 ds M2 s2 ok2 r2 q2 => ?_
    exact sp_use ok2 (.cons (r1.stp s2) r2) q2 (he.stp (s1.trans s2)) (hk.stp (s1.trans s2))
/-! ### instances made -/
theorem run_mk {pins : List (Addr × Obj)} {σ : St} {H : Hp} {s : Shared} {Q : VK} {us : List Value} {vs : List V} {C f : Addr} {fd : FuncData} {k : Nat} {ps : List PySem.Str} {sp : Sp} {E : XK}
    (hM : Mk X.K C f) (F : FnOk X.prog X.w X.K X.mg X.base (CX X.prog X.w) k f fd ps sp) (hr : Room (k + 1) X.A) (hb : Binds X.K fd ps []) (hx : PassesAt (CX X.prog X.w) X σ E) (I : Inv X pins σ H s) (r : Vals vs us)
    (h : ∀ x dx, H x = none → H dx = none → dx ≠ x → sp (.ref x :: vs) (upd (upd H dx (.own x)) x (.ins C dx [])) (fun v H2 => v = .non ∧ Q (.ref x) H2) E) :
    wpAny (model X.prog X.w) X.A (call (.ref C) us) (EP X pins σ Q) X.xe s := by
  let n := s.heap.objs.size
  have want := h (n + 1) n (I.hok.fresh (Nat.le_succ _)) (I.hok.fresh (Nat.le_refl _)) (Nat.ne_of_lt (Nat.lt_succ_self _))
  have J := Inv.made (C := C) I
  have rv : Vals (V.ref (n + 1) :: vs) (Value.ref (n + 1) :: us) := .cons rfl r
  have hl : (Value.ref (n + 1) :: us).length = ps.length := rv.length.symm.trans (F.len _ _ _ _ want)
  have bd := hb _ (Value.ref (n + 1) :: us) J.kIn (by rw [List.append_nil]; exact hl); rw [List.append_nil] at bd
  have body := F.run _ X.stack _ _ ⟨Value.ref (n + 1) :: us, []⟩ (Value.ref (n + 1) :: us) _ _ E (hr.make C us []) (J.env0.make C us []) bd rv want
  refine wpAny_call (make_map (f := f) I.kIn hM.makes hM.init (beq_iff_eq.mp hM.fn) (codeAny_mono body fun res t hq => ?_))
  match res, hq with
  | .error e, hq => exact hx pins _ _ e t J hq
  | .ok (.ret u), hq =>
    obtain ⟨v, H', K', rw', ev, q3⟩ := J.after hq
    subst ev; exact ⟨rw', ⟨V.ref (n + 1), H', K', rfl, q3⟩⟩
  | .ok .next, hq => exact hq.elim
  | .ok .brk, hq => exact hq.elim
  | .ok .cont, hq => exact hq.elim
open PySem.Calls PyProof.Rows in
theorem run_mk0 {X : Cx} {pins : List (Addr × Obj)} {σ : L2.St} {H : Hp} {s : Shared} {Q : VK} {C : Addr} (hm : PySem.W.makesIn X.K C = true) (hi : PySem.W.findIn X.K (.ref C) "__init__" = some (some (.builtin "object.__init__"))) (I : Inv X pins σ H s)
    (h : ∀ x dx, H x = none → H dx = none → dx ≠ x → Q (.ref x) (upd (upd H dx (.own x)) x (.ins C dx []))) :
    wpAny (model X.prog X.w) X.A (call (.ref C) []) (EP X pins σ Q) X.xe s := by
  let n := s.heap.objs.size
  have want := h (n + 1) n (I.hok.fresh (Nat.le_succ _)) (I.hok.fresh (Nat.le_refl _)) (Nat.ne_of_lt (Nat.lt_succ_self _))
  have J := Inv.made (C := C) I
  have top := (PySem.W.makes_of (M := model X.prog X.w) I.kIn hm).top
  refine wpAny_call (make_map0 I.kIn hm hi (fun v => PySem.W.Looks.of_pure (PySem.W.oi_bind v)) ?_)
  have at1 : ((s.heap.push PySem.W.emptyDict).push (PySem.W.instObj C n)).get? (n + 1) = some (PySem.W.instObj C n) := by
    have := Heap.get?_push_size (o := PySem.W.instObj C n) (s.heap.push PySem.W.emptyDict) rfl
    rwa [Heap.size_push] at this
  have cl1 : PySem.W.Looks (model X.prog X.w) ((s.heap.push PySem.W.emptyDict).push (PySem.W.instObj C n)) (typeOf (.ref (n + 1))) (.ref C) := (PySem.W.Looks.ld at1).andThen .now
  have is1 : PySem.W.Looks (model X.prog X.w) ((s.heap.push PySem.W.emptyDict).push (PySem.W.instObj C n)) (isInstance (.ref (n + 1)) (.type "object")) true := cl1.andThen (top.keeps fun b o e => Heap.get?_push_of_some (PySem.W.instObj C n) (Heap.get?_push_of_some PySem.W.emptyDict e))
  refine codeAny_call_builtin PySem.W.oi_plain PySem.W.entry_oi (@PySem.W.check_slot (model X.prog X.w) _ _ _ "object.__init__" "object" "__init__" (.ref (n + 1)) [] [] _ PySem.W.oi_kind PySem.W.oi_split is1 (PySem.W.oi_args (.ref (n + 1))) ?_)
  rw [PySem.W.oi_run]
  exact wpAny_pure ⟨rfl, V.ref (n + 1), _, J, rfl, want⟩
theorem snd_mk {m : Bool} {n : Nm} {ss : List SE} {es : List Expr} {p pos : Pos} (hh : c.hot = false) (h : SndL c T N sc ss es) (hg : glB sc n.s = true) (hn : nmB n.s = true) : Snd c T N sc (.mk m n ss) (.Call (.Name n.s p) es [] pos) := fun X W O => by
  obtain ⟨n1, n2, n3⟩ := nmB_of hn
  obtain ⟨t, h2, run⟩ := h.args O
  cases e : lk T.cl n with
  | none =>
    refine snd_no O rfl fun env M Q E q => ?_
    change obn (lk T.cl n) _ at q
    rw [e] at q; exact q
  | some sp =>
    rcases O.cl hh n sp e with ⟨C, f, fd, kk, ps, spI, hC, F, hr, hM, hm, hb, hsp⟩ | ⟨C, hC, mk, ini, kp, hm, hsp⟩
    refine Snd.mk (t := fun σ H Q => t σ H fun vs H1 => ∀ x dx, H1 x = none → H1 dx = none → dx ≠ x → toSp c spI (.ref x :: vs) (upd (upd H1 dx (.own x)) x (.ins C dx [])) (fun v H2 => v = .non ∧ Q (.ref x) H2) (L2.WE W σ)) O rfl
      ⟨fun pins s σ H Q I q => ?_⟩ fun Z σ H env M Q E k st q he hk => ?_
    · refine wpAny_Call_Name_kw (ld_glob I (gl_of O hg) hm ?_ n1)
      exact run (.ref C) [] pos pins s σ H _ _ hM.kp I q fun us s2 vs H2 I2 rv q2 => run_mk hM F hr hb (passAt O.tk σ) I2 rv q2
    · have q : obn (lk T.cl n) fun sp => wEs T ss env M (fun ds M1 => ap sp ds M1 (fun d M2 => frz1 m d M2 Q) E) E := q
      rw [e] at q
      refine h2 Z σ H env M _ E _ st q he fun vs H1 ds M1 s1 ok1 r1 q1 => fun x dx hx hd hne => ?_
      have hxM : M1 x = none := ok1.fresh hx
      have hx' : upd H1 dx (.own x) x = none := by rw [upd_ne (Ne.symm hne)]; exact hx
      have okd := cells_new (o := .own x) ok1 hd
      have sd := stp_new (o := .own x) ok1 hd
      have sx := stp_newc (o := .ins C dx []) (x := .ins n []) okd hx'
      have okx : Cells (c.z Z) (upd (upd H1 dx (.own x)) x (.ins C dx [])) (up M1 x (.ins n [])) := cells_newc okd hx' (.ins upd_same hC (fun p hp => nomatch hp) .nil)
      have sA := sd.trans sx
      refine ⟨Z, .ref x :: ds, up M1 x (.ins n []), _, E, .cons (.ref x) (r1.stp sA), okx, hsp ds M1 _ E q1 x hxM, fun v H' d M' s ok' r' q => ?_, fun cls dd H' y M' s ok' xr e => (he.stp s1) cls dd H' y M' (sA.trans s) ok' xr e⟩
      obtain ⟨rfl, d2, M2, fz, q⟩ := q
      obtain ⟨ok2, r2, sub⟩ := fz Z H' (.ref x) ok' (.ref x)
      refine ⟨rep_non r', ?_⟩
      exact frz_sat ok2 r2 q (hk.stp (s1.trans (sA.trans (s.trans (stp_sub sub)))))
    refine Snd.mk (t := fun σ H Q => t σ H fun vs H1 => vs = [] ∧ ∀ x dx, H1 x = none → H1 dx = none → dx ≠ x → Q (.ref x) (upd (upd H1 dx (.own x)) x (.ins C dx []))) O rfl
      ⟨fun pins s σ H Q I q => ?_⟩ fun Z σ H env M Q E k st q he hk => ?_
    · refine wpAny_Call_Name_kw (ld_glob I (gl_of O hg) hm ?_ n1)
      refine run (.ref C) [] pos pins s σ H _ _ kp I q fun us s2 vs H2 I2 rv q2 => ?_
      obtain ⟨rfl, q3⟩ := q2
      cases rv
      exact run_mk0 mk ini I2 q3
    · have q : obn (lk T.cl n) fun sp => wEs T ss env M (fun ds M1 => ap sp ds M1 (fun d M2 => frz1 m d M2 Q) E) E := q
      rw [e] at q
      refine h2 Z σ H env M _ E _ st q he fun vs H1 ds M1 s1 ok1 r1 q1 => ?_
      obtain ⟨rfl, q2⟩ := hsp ds M1 _ E q1
      cases r1
      refine ⟨rfl, fun x dx hx hd hne => ?_⟩
      have hxM : M1 x = none := ok1.fresh hx
      have hx' : upd H1 dx (.own x) x = none := by rw [upd_ne (Ne.symm hne)]; exact hx
      have okd := cells_new (o := .own x) ok1 hd
      have sd := stp_new (o := .own x) ok1 hd
      have sx := stp_newc (o := .ins C dx []) (x := .ins n []) okd hx'
      have okx : Cells (c.z Z) (upd (upd H1 dx (.own x)) x (.ins C dx [])) (up M1 x (.ins n [])) := cells_newc okd hx' (.ins upd_same hC (fun p hp => nomatch hp) .nil)
      exact frz_sat okx (.ref x) (q2 x hxM) (hk.stp (s1.trans (sd.trans sx)))
end
end L3

set_option maxRecDepth 100000
set_option maxHeartbeats 4000000
namespace L3
open PySem L2
section
variable {X : Cx} {c : Cfg} {T : Tab} {N : List PySem.Str} {sc : Scope} {W : WX}
/-! ### built-in functions -/
theorem bi_name (f : Bi) : (f.s == ("__debug__" : PySem.Str)) = false ∧ f.s ≠ "__name__" ∧ f.s ∈ bnames := by cases f <;> decide +kernel
theorem snd_bi {m : Bool} {f : Bi} {ss : List SE} {es : List Expr} {p pos : Pos} (hh : c.hot = false) (h : SndL c T N sc ss es) (hg : glB sc f.s = true) : Snd c T N sc (.bi m f ss) (.Call (.Name f.s p) es [] pos) := fun X W O => by
  obtain ⟨t, id, r, hb, hc, hs⟩ := bi_ok (X := X) (c := c) O.K (O.calm hh).1 m f
  obtain ⟨b1, b2, b3⟩ := bi_name f
  cases h with
  | nil =>
    refine snd_no O rfl fun env M Q E q => ?_
    change biD m f [] M Q at q
    cases f <;> exact q
  | @cons s e ss es a ha r' =>
    obtain ⟨u, h1, h2⟩ := (SndL.cons a ha r').pa O
    have sat : SatE c W (tCB r u) (wE T (.bi m f (s :: ss))) := fun Z σ H env M Q E k st q he hk => by
      refine h2 Z σ H env M _ E _ st q he fun vs H1 ds M1 s1 ok1 r1 q1 => ?_
      exact hs Z vs H1 M1 ds Q k ok1 r1 q1 (hk.stp s1)
    cases t with
    | true => exact Snd.mk O rfl (pe_callTy hc (gl_of O hg) (O.bi _ b3) hb h1 b2 b1 (star_cons (mE_fine ha)) (mEs_any r'.m pos X.env)) sat
    | false => exact Snd.mk O rfl (pe_callB hc (gl_of O hg) (O.bi _ b3) hb h1 b2 b1 (star_cons (mE_fine ha)) (mEs_any r'.m pos X.env)) sat
/-! ### built-in methods -/
/-- a list's -/
theorem bm_gen {m : Bool} {f : Bm} {id : String} {r : V → List V → Hp → VK → Prop} {a : SE} {o : Expr} {ss : List SE} {es : List Expr} {p pos : Pos} (pa : PlainAttrs "list") (slot : Slot "list" f.s id) (hty : typeOf (.builtin id) = pure (.type "method_descriptor"))
    (hm : ∀ X : Cx, MtR X id r) (rc : ∀ M d, rcvB f M d = (lstD M d).isSome)
    (sat : ∀ (c : Cfg) x vs H M d ds Q k, Cells c H M → Rep c H M x d → Reps c H M vs ds → bmD m f d ds M Q → Cont c H M Q k → r x vs H k)
    (ha : Snd c T N sc a o) (h : SndL c T N sc ss es) (hs : supB o = true) (hp : (p.endLine == pos.line) = true) (hl : es.length < 29) : Snd c T N sc (.bm m a f ss) (.Call (.Attribute o f.s p) es [] pos) := fun X W O => by
  obtain ⟨⟨ta, a1, a2⟩, _⟩ := ha X W O
  have ty : ∀ {c' : Cfg} {x : V} {d : D} {H : Hp} {M : Mm}, Cells c' H M → Rep c' H M x d → rcvB f M d = true → tyV X.K "list" x H := fun ok rx e => by
    rw [rc] at e
    obtain ⟨es, e⟩ := Option.isSome_iff_exists.mp e
    obtain ⟨a, vs, rfl, h1, _, _⟩ := rep_lst ok rx e
    exact .inl ⟨rfl, _, SqL.of h1⟩
  cases h with
  | nil =>
    refine Snd.mk O rfl (pe_bm0 pa slot hty (hm X) a1 (attrB hs) hp) fun Z σ H env M Q E k st q he hk => ?_
    refine a2 Z σ H env M _ E _ st q he fun x H1 dx M1 s1 ok1 r1 q1 => ?_
    exact ⟨ty ok1 r1 q1.1, sat (c.z Z) _ _ _ _ _ _ _ _ ok1 r1 .nil q1.2 (hk.stp s1)⟩
  | @cons s e ss es b hb r' =>
    obtain ⟨u, h1, h2⟩ := (SndL.cons b hb r').pa O
    refine Snd.mk O rfl (pe_bm pa slot hty (hm X) a1 h1 (attrB hs) (form_ok (SndL.cons b hb r').m hl pos X.env) hp (star_cons (mE_fine hb)) (mEs_any r'.m pos X.env)) fun Z σ H env M Q E k st q he hk => ?_
    refine a2 Z σ H env M _ E _ st q he fun x H1 dx M1 s1 ok1 r1 q1 => ⟨ty ok1 r1 q1.1, ?_⟩
    refine h2 Z σ H1 env M1 _ E _ (st.stp s1 ok1) q1.2 (he.stp s1) fun vs H2 ds M2 s2 ok2 r2 q2 => ?_
    exact sat (c.z Z) _ _ _ _ _ _ _ _ ok2 (r1.stp s2) r2 q2 (hk.stp (s1.trans s2))
theorem cel_rep {H : Hp} {M : Mm} {x : V} {d : D} {a : Addr} {ds : List D} (ok : Cells c H M) (r : Rep c H M x d) (h : celL M d = some (a, ds)) : x = .ref a ∧ M a = some (.lst ds) ∧ ∃ vs, H a = some (.lst vs) ∧ vs.length ≤ sizeLine ∧ Reps c H M vs ds := by
  cases r with
  | ref b =>
    cases e : M b with
    | none => simp [celL, e] at h
    | some y => cases y with
      | lst es =>
        simp [celL, e] at h
        obtain ⟨rfl, rfl⟩ := h
        cases ok.at' _ _ e with
        | lst h1 z q => exact ⟨rfl, e, _, h1, z, q⟩
      | _ => simp [celL, e] at h
  | _ => simp [celL] at h
/-- a list changed -/
theorem cel_set {H : Hp} {M : Mm} {a : Addr} {ds es : List D} {ws : List V} {v : V} {d : D} {Q : QD} {k : VK} (ok : Cells c H M) (e : M a = some (.lst ds)) (z : ws.length ≤ sizeLine) (r : Reps c H M ws es) (rv : Rep c H M v d)
    (h : Q d (up M a (.lst es))) (hk : Cont c H M Q k) : k v (upd H a (.lst ws)) := by
  have s := stp_set (o := .lst ws) (x' := .lst es) ok e
  exact hk _ _ _ _ s (cells_set ok e (.lst upd_same z (r.stp s))) (rv.stp s) h
theorem sat_append (c : Cfg) {m : Bool} (x : V) (vs : List V) (H : Hp) (M : Mm) (d : D) (ds : List D) (Q : QD) (k : VK) (ok : Cells c H M) (rx : Rep c H M x d) (r : Reps c H M vs ds) (h : bmD m .append d ds M Q) (hk : Cont c H M Q k) : rAppend x vs H k := by
  cases r with
  | nil => exact False.elim h
  | cons ry rr => cases rr with
    | cons _ _ => exact False.elim h
    | nil =>
      obtain ⟨⟨a, es⟩, e, hz, h⟩ := obn_of h
      obtain ⟨rfl, e2, ws, h1, z, q⟩ := cel_rep ok rx e
      exact ⟨a, ws, _, rfl, rfl, h1, by rw [q.len]; exact hz, cel_set ok e2 (by rw [List.length_append, q.len]; exact hz) (q.append (.one ry)) .non h hk⟩
theorem sat_extend (c : Cfg) {m : Bool} (x : V) (vs : List V) (H : Hp) (M : Mm) (d : D) (ds : List D) (Q : QD) (k : VK) (ok : Cells c H M) (rx : Rep c H M x d) (r : Reps c H M vs ds) (h : bmD m .extend d ds M Q) (hk : Cont c H M Q k) : rExtend x vs H k := by
  cases r with
  | nil => exact False.elim h
  | cons ry rr => cases rr with
    | cons _ _ => exact False.elim h
    | nil =>
      obtain ⟨⟨a, es⟩, e, h⟩ := obn_of h
      obtain ⟨fs, e3, hz, h⟩ := obn_of h
      obtain ⟨rfl, e2, ws, h1, z, q⟩ := cel_rep ok rx e
      obtain ⟨b, us, rfl, g1, _, g2⟩ := rep_lst ok ry e3
      have hl : ws.length + us.length ≤ sizeLine := by rw [q.len, g2.len]; exact hz
      exact ⟨a, b, ws, us, rfl, rfl, h1, g1, hl, cel_set ok e2 (by rw [List.length_append]; exact hl) (q.append g2) .non h hk⟩
theorem sat_clear (c : Cfg) {m : Bool} (x : V) (vs : List V) (H : Hp) (M : Mm) (d : D) (ds : List D) (Q : QD) (k : VK) (ok : Cells c H M) (rx : Rep c H M x d) (r : Reps c H M vs ds) (h : bmD m .clear d ds M Q) (hk : Cont c H M Q k) : rClear x vs H k := by
  cases r with
  | cons _ _ => exact False.elim h
  | nil =>
    obtain ⟨⟨a, es⟩, e, h⟩ := obn_of h
    obtain ⟨rfl, e2, ws, h1, z, q⟩ := cel_rep ok rx e
    exact ⟨a, ws, rfl, rfl, h1, cel_set ok e2 (Nat.zero_le _) .nil .non h hk⟩
def rPopU : V → List V → Hp → VK → Prop := fun x xs H Q => rPop x xs H Q ∨ rPopAt x xs H Q
theorem Reps.dropLast {H : Hp} {M : Mm} {vs : List V} {ds : List D} (r : Reps c H M vs ds) : Reps c H M vs.dropLast ds.dropLast := by
  rw [List.dropLast_eq_take, List.dropLast_eq_take, r.len]
  exact r.take _
theorem ixN_eq {n : Nat} {i : Int} {k : Nat} (h : ixN n i = some k) : seqIndex? i n = some k := (ixN_seq h).1
theorem sat_pop (c : Cfg) {m : Bool} (x : V) (vs : List V) (H : Hp) (M : Mm) (d : D) (ds : List D) (Q : QD) (k : VK) (ok : Cells c H M) (rx : Rep c H M x d) (r : Reps c H M vs ds) (h : bmD m .pop d ds M Q) (hk : Cont c H M Q k) : rPopU x vs H k := by
  cases r with
  | nil =>
    obtain ⟨⟨a, es⟩, e, h⟩ := obn_of h
    obtain ⟨y, e3, h⟩ := obn_of h
    obtain ⟨rfl, e2, ws, h1, z, q⟩ := cel_rep ok rx e
    obtain ⟨w, g1, g2⟩ := q.get e3
    exact .inl ⟨a, ws, w, rfl, rfl, h1, by rw [q.len]; exact g1, cel_set ok e2 (Nat.le_trans (by rw [List.length_dropLast]; omega) z) q.dropLast g2 h hk⟩
  | cons ry rr => cases rr with
    | cons _ _ => cases ry <;> exact False.elim h
    | nil => cases ry with
      | int i =>
        obtain ⟨⟨a, es⟩, e, h⟩ := obn_of h
        obtain ⟨hi, h⟩ := h
        obtain ⟨j, e4, h⟩ := obn_of h
        obtain ⟨y, e3, h⟩ := obn_of h
        obtain ⟨rfl, e2, ws, h1, z, q⟩ := cel_rep ok rx e
        obtain ⟨w, g1, g2⟩ := q.get e3
        exact .inr ⟨a, ws, i, j, w, rfl, rfl, h1, hi.1, hi.2, by rw [q.len]; exact ixN_eq e4, g1, cel_set ok e2 (Nat.le_trans (List.length_eraseIdx_le _ _) z) (q.erase _) g2 h hk⟩
      | _ => exact False.elim h
/-! ### dict.get -/
theorem isD_rep {H : Hp} {M : Mm} {x : V} {d : D} (ok : Cells c H M) (r : Rep c H M x d) (h : (dctD M d).isSome = true) : ∃ a, x = .ref a ∧ IsD H a := by
  obtain ⟨⟨t, ds⟩, e⟩ := Option.isSome_iff_exists.mp h
  obtain ⟨a, rfl, ⟨_, ks, g, _⟩ | ⟨_, ks, g, _⟩⟩ := rep_dct ok r e
  · exact ⟨a, rfl, .inl ⟨ks, g⟩⟩
  · exact ⟨a, rfl, .inr ⟨ks, g⟩⟩
theorem snd_get {m : Bool} {a : SE} {o : Expr} {ss : List SE} {es : List Expr} {p pos : Pos} (ha : Snd c T N sc a o) (h : SndL c T N sc ss es) (hb : bmB .get ss.length = true) (hs : supB o = true) (hp : (p.endLine == pos.line) = true) (hl : es.length < 29) :
    Snd c T N sc (.bm m a .get ss) (.Call (.Attribute o Bm.get.s p) es [] pos) := fun X W O => by
  obtain ⟨⟨ta, a1, a2⟩, _⟩ := ha X W O
  have hu : X.A.units + 1 < cLine := by have := O.hu; omega
  cases h with
  | nil => simp [bmB] at hb
  | @cons s e ss es b he' r =>
    obtain ⟨⟨u, h1, h2⟩, _⟩ := b X W O
    cases r with
    | nil =>
      have f1 := form_ok (SndL.cons b he' .nil).m hl pos X.env
      have t1 : backTo pos (starEach [e] X.env) = [(false, eval e X.env)] := by rw [star_cons (mE_fine he')]; rfl
      refine Snd.mk O rfl (pe_dget1 hu a1 h1 ⟨attrB hs, f1, hp, t1⟩) fun Z σ H env M Q E k st q he hk => ?_
      refine a2 Z σ H env M _ E _ st q he fun x H1 dx M1 s1 ok1 r1 q1 => ?_
      obtain ⟨q0, q1⟩ := q1
      obtain ⟨y, rfl, hd⟩ := isD_rep ok1 r1 q0
      refine ⟨y, rfl, hd, h2 Z σ H1 env M1 _ E _ (st.stp s1 ok1) q1 (he.stp s1) fun w H2 dw M2 s2 ok2 r2 q2 => ?_⟩
      obtain ⟨⟨t, kvs⟩, e1, hk', q2⟩ := obn_of q2
      obtain ⟨z, ez, ⟨g1, g2⟩ | ⟨v, dv, g1, g2, g3⟩⟩ := dget_of ok2 (r1.stp s2) e1 r2 hk'
      · cases ez
        refine ⟨_, g2, ?_⟩
        rw [g1] at q2
        exact hk _ _ _ _ (s1.trans s2) ok2 .non q2
      · cases ez
        refine ⟨_, g2, ?_⟩
        rw [g1] at q2
        exact hk _ _ _ _ (s1.trans s2) ok2 g3 q2
    | @cons s' e' ss es b' hb' r =>
      cases r with
      | cons _ _ _ => simp [bmB] at hb
      | nil =>
        obtain ⟨⟨u', i1, i2⟩, _⟩ := b' X W O
        have f1 := form_ok (SndL.cons b he' (SndL.cons b' hb' .nil)).m hl pos X.env
        have t1 : backTo pos (starEach [e, e'] X.env) = [(false, eval e X.env), (false, eval e' X.env)] := by rw [star_cons (mE_fine he'), star_cons (mE_fine hb')]; rfl
        refine Snd.mk O rfl (pe_dget2 hu a1 h1 i1 ⟨attrB hs, f1, hp, t1⟩) fun Z σ H env M Q E k st q he hk => ?_
        refine a2 Z σ H env M _ E _ st q he fun x H1 dx M1 s1 ok1 r1 q1 => ?_
        obtain ⟨q0, q1⟩ := q1
        obtain ⟨y, rfl, hd⟩ := isD_rep ok1 r1 q0
        refine ⟨y, rfl, hd, h2 Z σ H1 env M1 _ E _ (st.stp s1 ok1) q1 (he.stp s1) fun w H2 dw M2 s2 ok2 r2 q2 => ?_⟩
        refine i2 Z σ H2 env M2 _ E _ (st.stp (s1.trans s2) ok2) q2 (he.stp (s1.trans s2)) fun w' H3 dw' M3 s3 ok3 r3 q3 => ?_
        obtain ⟨⟨t, kvs⟩, e1, hk', q3⟩ := obn_of q3
        obtain ⟨z, ez, ⟨g1, g2⟩ | ⟨v, dv, g1, g2, g3⟩⟩ := dget_of ok3 (r1.stp (s2.trans s3)) e1 (r2.stp s3) hk'
        · cases ez
          refine ⟨_, g2, ?_⟩
          rw [g1] at q3
          exact hk _ _ _ _ ((s1.trans s2).trans s3) ok3 r3 q3
        · cases ez
          refine ⟨_, g2, ?_⟩
          rw [g1] at q3
          exact hk _ _ _ _ ((s1.trans s2).trans s3) ok3 g3 q3
theorem snd_bm {m : Bool} {f : Bm} {a : SE} {o : Expr} {ss : List SE} {es : List Expr} {p pos : Pos} (ha : Snd c T N sc a o) (h : SndL c T N sc ss es) (hb : bmB f ss.length = true) (hs : supB o = true) (hp : (p.endLine == pos.line) = true) (hl : es.length < 29) :
    Snd c T N sc (.bm m a f ss) (.Call (.Attribute o f.s p) es [] pos) := by
  cases f with
  | append => exact bm_gen F.plainAttrs_list F.slot_list_append F.type_list_append (fun X => mt_append) (fun _ _ => rfl) (fun c => sat_append c) ha h hs hp hl
  | extend => exact bm_gen F.plainAttrs_list F.slot_list_extend F.type_list_extend (fun X => mt_extend) (fun _ _ => rfl) (fun c => sat_extend c) ha h hs hp hl
  | clear => exact bm_gen F.plainAttrs_list F.slot_list_clear F.type_list_clear (fun X => mt_clear) (fun _ _ => rfl) (fun c => sat_clear c) ha h hs hp hl
  | pop => exact bm_gen F.plainAttrs_list F.slot_list_pop F.type_list_pop (fun X => MtR.or mt_pop mt_popAt) (fun _ _ => rfl) (fun c => sat_pop c) ha h hs hp hl
  | get => exact snd_get ha h hb hs hp hl
  | _ => simp [bmB] at hb
end
end L3

set_option maxRecDepth 100000
set_option maxHeartbeats 4000000
namespace L3
open PySem L2
section
variable {X : Cx} {c : Cfg} {T : Tab} {N : List PySem.Str} {sc : Scope} {W : WX}
/-! ### isinstance -/
/-- the classes' values -/
def clV (c : Cfg) : Ty1 → Option V
  | .bt n => some (.ty n)
  | .own n => (c.cls n).map V.ref
def kitB (a b : String) : Option Bool := if (Value.type a == Value.type b) = true then some true else if PySem.W.kitMeta b = true then (fastBuiltinMro a).map (·.contains (.type b)) else none
theorem kit_bb (K : PySem.W.Frag) (a b : String) : PySem.W.kitOne K (.type a) (.type b) = kitB a b := rfl
theorem kit_tab : ∀ a ∈ btn, ∀ b ∈ btt, kitB a b = some (decide (a = b) || (decide (a = "bool") && decide (b = "int"))) := by decide +kernel
/-- the answers, one class after the other -/
inductive Ans (K : PySem.W.Frag) (t : Value) : List V → List Value → List (Option Bool) → Prop
  | nil : Ans K t [] [] []
  | cons {v : V} {u : Value} {b : Option Bool} {vs us bs} : ClsV v u → (∀ x, b = some x → PySem.W.kitOne K t u = some x) → Ans K t vs us bs → Ans K t (v :: vs) (u :: us) (b :: bs)
theorem Ans.pair {K : PySem.W.Frag} {t : Value} : ∀ {vs us bs}, Ans K t vs us bs → Paired ClsV vs us
  | _, _, _, .nil => .nil
  | _, _, _, .cons h _ r => .cons h r.pair
theorem Ans.any {K : PySem.W.Frag} {t : Value} {f : Ty1 → Option Bool} : ∀ {ts : List Ty1} {vs us}, Ans K t vs us (ts.map f) → ∀ {b}, anyT f ts = some b → PySem.W.kitAny K t us = some b
  | [], _, _, .nil, b, h => h
  | t1 :: r, _, _, .cons h1 h2 h3, b, h => by
    unfold anyT at h
    unfold PySem.W.kitAny
    cases e : f t1 with
    | none => rw [e] at h; cases h
    | some x =>
      rw [e] at h
      rw [h2 x e]
      cases x with
      | true => exact h
      | false => exact h3.any h
theorem Ans.one {K : PySem.W.Frag} {t : Value} {f : Ty1 → Option Bool} {t1 : Ty1} {v : V} {u : Value} {b : Bool} (h : ∀ x, f t1 = some x → PySem.W.kitOne K t u = some x) (e : anyT f [t1] = some b) : PySem.W.kitOne K t u = some b := by
  unfold anyT at e
  cases e1 : f t1 with
  | none => rw [e1] at e; cases e
  | some x =>
    rw [e1] at e
    rw [h x e1]
    cases x with
    | true => exact e
    | false => exact e
def tyV1 (c : Cfg) : Ty1 → V
  | .bt n => .ty n
  | .own n => .ref ((c.cls n).getD 0)
def tyU1 (c : Cfg) : Ty1 → Value
  | .bt n => .type n
  | .own n => .ref ((c.cls n).getD 0)
theorem tyCls (c : Cfg) (t : Ty1) : ClsV (tyV1 c t) (tyU1 c t) := by
  cases t with
  | bt n => exact .ty n
  | own n => exact .own _
theorem ty_boot : ∀ n ∈ btt, bootBuiltins (PySem.Str.ofString n) = some (.type n) ∧ PySem.Str.ofString n ∈ bnames := by decide +kernel
theorem ty_pe (O : COk c T N sc X W) {t : Ty1} {e : Expr} (h : mTy1 sc t e = true) (ho : ownOk T [t] = true) : PE X e (tC (tyV1 c t)) ∧ fine e = true := by
  cases e with
  | Name x p =>
    simp only [mTy1, Bool.and_eq_true, decide_eq_true_eq] at h
    obtain ⟨⟨⟨rfl, hg⟩, hn⟩, hb⟩ := h
    obtain ⟨n1, n2, n3⟩ := nmB_of hn
    refine ⟨?_, rfl⟩
    cases t with
    | bt n =>
      obtain ⟨b1, b2⟩ := ty_boot n (by simpa [bttB] using hb)
      exact pe_bltn (gl_of O hg) (O.bi _ b2) b1 (show RelV (.ty n) (.type n) from rfl) n3 n1
    | own n =>
      simp only [ownOk, List.all_cons, List.all_nil, Bool.and_true, decide_eq_true_eq] at ho
      obtain ⟨C, hC⟩ := Option.isSome_iff_exists.mp (O.own n ho)
      have := O.clsG n C hC
      refine pe_glob (gl_of O hg) this ?_ n1
      show Value.ref C = Value.ref ((c.cls n).getD 0)
      rw [hC]; rfl
  | _ => simp [mTy1] at h
theorem ownOk_cons {t : Ty1} {ts : List Ty1} (h : ownOk T (t :: ts) = true) : ownOk T [t] = true ∧ ownOk T ts = true := by
  simp only [ownOk, List.all_cons, List.all_nil, Bool.and_true, Bool.and_eq_true] at h ⊢
  exact h
/-- several -/
def tTys : List V → TA
  | [] => tNil
  | v :: vs => tCons (tC v) (tTys vs)
theorem tys_pa (O : COk c T N sc X W) : ∀ {ts : List Ty1} {es : List Expr}, mTys sc ts es = true → ownOk T ts = true → PA X es (tTys (ts.map (tyV1 c))) ∧ ∀ pos, (backTo pos (starEach es X.env)).any (·.1) = false
  | [], [], _, _ => ⟨pa_nil, fun _ => rfl⟩
  | [], _ :: _, h, _ => by simp [mTys] at h
  | _ :: _, [], h, _ => by simp [mTys] at h
  | t :: ts, e :: es, h, ho => by
    simp only [mTys, Bool.and_eq_true] at h
    obtain ⟨h1, h2⟩ := ownOk_cons ho
    obtain ⟨p1, f⟩ := ty_pe O h.1 h1
    obtain ⟨p2, g⟩ := tys_pa O h.2 h2
    refine ⟨pa_cons p1 p2 (star_cons f), fun pos => ?_⟩
    rw [star_cons f]
    simp only [backTo, List.map_cons, List.any_cons, Bool.false_or]
    exact g pos
theorem tTys_run {vs : List V} {σ : St} {H : Hp} {Q : List V → Hp → Prop} (h : Q vs H) : tTys vs σ H Q := by
  induction vs generalizing Q with
  | nil => exact h
  | cons v r ih =>
    refine (?_ : tTys r σ H fun ws H2 => Q (v :: ws) H2)
    exact ih h
/-- the type of what is read -/
def tyKnown (c : Cfg) : Ty1 → Prop
  | .bt x => x ∈ btn
  | .own n => ∃ C, c.cls n = some C
theorem insT_of {n : Nm} {a : Ty1} (h : insT T n = some a) : a = .own n ∧ ∃ l, lk T.isn n = some l := by
  unfold insT at h
  cases e : lk T.isn n with
  | none => rw [e] at h; cases h
  | some l => rw [e] at h; cases h; exact ⟨rfl, l, rfl⟩
theorem tyx_ins (O : COk c T N sc X W) {H : Hp} {a C dx : Addr} {vs : List (PySem.Str × V)} {n : Nm} {t : Ty1} (h1 : H a = some (.ins C dx vs)) (hI : c.icls n = some C) (h : insT T n = some t) : TyX X.K H (.ref a) (tyU1 c t) ∧ tyKnown c t := by
  obtain ⟨rfl, l, hl⟩ := insT_of h
  have hC := O.icl n C hI (by rw [hl]; rfl)
  obtain ⟨I, _⟩ := O.isO n l hl C hC
  refine ⟨?_, C, hC⟩
  show TyX X.K H (.ref a) (.ref ((c.cls n).getD 0))
  rw [hC]
  exact .base (.ins h1 I.cl I.ha I.hn I.htk I.hm)
theorem tyx_rep (O : COk c T N sc X W) {Z : Addr → Prop} {H : Hp} {M : Mm} {v : V} {d : D} {a : Ty1} (ok : Cells (c.z Z) H M) (r : Rep (c.z Z) H M v d) (h : tyD T M d = some a) : TyX X.K H v (tyU1 c a) ∧ tyKnown c a := by
  cases r with
  | non => cases h; exact ⟨.base .non, by show _ ∈ btn; decide⟩
  | bl b => cases h; exact ⟨.base (.bl b), by show _ ∈ btn; decide⟩
  | int b => cases h; exact ⟨.base (.int b), by show _ ∈ btn; decide⟩
  | str b => cases h; exact ⟨.base (.str b), by show _ ∈ btn; decide⟩
  | lst h1 n z q => cases h; exact ⟨.base (.lst h1), by show _ ∈ btn; decide⟩
  | tup h1 n z q => cases h; exact ⟨.base (.tup h1), by show _ ∈ btn; decide⟩
  | roL h1 z q =>
    cases h
    refine ⟨?_, by show _ ∈ btn; decide⟩
    rcases h1 with ⟨h1 | ⟨o, h1⟩, _⟩ | h1
    · exact .base (.lst h1)
    · exact .base (.frz h1)
    · obtain ⟨o, its, n, h1, h2, _⟩ := h1
      exact .kList (by rw [O.K]; exact h1) h2
  | roT h1 z q =>
    cases h
    obtain ⟨o, its, n, h1, h2, _⟩ := h1
    exact ⟨.kTuple (by rw [O.K]; exact h1) h2, by show _ ∈ btn; decide⟩
  | dK h1 n z q =>
    cases h
    refine ⟨?_, by show _ ∈ btn; decide⟩
    rcases h1 with h1 | ⟨o, h1⟩
    · exact .base (.dK h1)
    · exact .fDict h1
  | dT h1 n z q => cases h
  | ins h1 n z k q => exact tyx_ins O h1 z h
  | exc a n fs => cases h
  | ref a =>
    cases e : M a with
    | none => simp [tyD, e] at h
    | some x => cases x with
      | lst ds =>
        simp [tyD, e] at h; subst h
        cases ok.at' _ _ e with
        | lst h1 z q => exact ⟨.base (.lst h1), by show _ ∈ btn; decide⟩
      | dct t ds =>
        simp [tyD, e] at h; subst h
        cases ok.at' _ _ e with
        | dK h1 z q => exact ⟨.base (.dK h1), by show _ ∈ btn; decide⟩
        | dT h1 z q => exact ⟨.base (.dT h1), by show _ ∈ btn; decide⟩
      | ins n fs =>
        simp [tyD, e] at h
        cases ok.at' _ _ e with
        | ins h1 z k q => exact tyx_ins O h1 z h
theorem kit_isT (O : COk c T N sc X W) {a t : Ty1} {b : Bool} (ha : tyKnown c a) (ht : bttB t = true) (ho : ownOk T [t] = true) (h : isT T a t = some b) : PySem.W.kitOne X.K (tyU1 c a) (tyU1 c t) = some b := by
  have own : ∀ {n}, ownOk T [.own n] = true → ∃ C, c.cls n = some C := fun {n} ho => by
    simp only [ownOk, List.all_cons, List.all_nil, Bool.and_true, decide_eq_true_eq] at ho
    exact Option.isSome_iff_exists.mp (O.own n ho)
  cases a with
  | bt x => cases t with
    | bt n =>
      have h : some (decide (x = n) || (decide (x = "bool") && decide (n = "int"))) = some b := h
      rw [← h]
      exact (kit_bb X.K x n).trans (kit_tab x ha n (by simpa [bttB] using ht))
    | own n =>
      obtain ⟨C, hC⟩ := own ho
      cases h
      show PySem.W.kitOne X.K (.type x) (.ref ((c.cls n).getD 0)) = _
      rw [hC]
      exact (O.isI n C hC).1 x ha
  | own m =>
    obtain ⟨C, hC⟩ := ha
    cases t with
    | bt n =>
      have h : (if n = "ValueError" then none else some false) = some b := h
      split at h
      · cases h
      · rename_i hn
        cases h
        show PySem.W.kitOne X.K (.ref ((c.cls m).getD 0)) (.type n) = _
        rw [hC]
        have := (O.isI m C hC).2 n (by simpa [bttB] using ht)
        simpa [hn] using this
    | own n =>
      obtain ⟨C', hC'⟩ := own ho
      unfold isT at h
      cases e : lk T.isn m with
      | none => simp [e] at h
      | some l =>
        simp [e] at h
        show PySem.W.kitOne X.K (.ref ((c.cls m).getD 0)) (.ref ((c.cls n).getD 0)) = _
        rw [hC, hC']
        rw [← h]
        exact (O.isO m l e C hC).2 n C' hC'
theorem mTys_btt : ∀ {ts : List Ty1} {es : List Expr}, mTys sc ts es = true → ∀ t ∈ ts, bttB t = true
  | [], _, _, t, h => by cases h
  | t :: ts, [], h, _, _ => by simp [mTys] at h
  | t :: ts, e :: es, h, u, hu => by
    simp only [mTys, Bool.and_eq_true] at h
    rcases List.mem_cons.mp hu with rfl | hu
    · cases e <;> simp_all [mTy1]
    · exact mTys_btt h.2 u hu
theorem ans_of {K : PySem.W.Frag} {u : Value} {f : Ty1 → Option Bool} : ∀ {ts : List Ty1}, (∀ t ∈ ts, ∀ b, f t = some b → PySem.W.kitOne K u (tyU1 c t) = some b) → Ans K u (ts.map (tyV1 c)) (ts.map (tyU1 c)) (ts.map f)
  | [], _ => .nil
  | t :: r, h => .cons (tyCls c t) (h t List.mem_cons_self) (ans_of fun t ht => h t (List.mem_cons_of_mem _ ht))
theorem ownOk_mem {ts : List Ty1} (h : ownOk T ts = true) {t : Ty1} (ht : t ∈ ts) : ownOk T [t] = true := by
  simp only [ownOk, List.all_eq_true, List.all_cons, List.all_nil, Bool.and_true] at h ⊢
  exact h t ht
end
end L3

set_option maxRecDepth 100000
set_option maxHeartbeats 4000000
namespace L3
open PySem L2
section
variable {X : Cx} {c : Cfg} {T : Tab} {N : List PySem.Str} {sc : Scope} {W : WX}
theorem isi_name : (("isinstance" : PySem.Str) == ("__debug__" : PySem.Str)) = false ∧ ("isinstance" : PySem.Str) ≠ "__name__" ∧ ("isinstance" : PySem.Str) ∈ bnames := by decide +kernel
theorem isA_of {M : Mm} {d : D} {ts : List Ty1} {b : Bool} (h : isA T M d ts = some b) : ∃ a, tyD T M d = some a ∧ anyT (isT T a) ts = some b := by
  unfold isA at h
  cases e : tyD T M d with
  | none => rw [e] at h; cases h
  | some a => rw [e] at h; exact ⟨a, rfl, h⟩
theorem snd_isi {x : SE} {tp : Bool} {ts : List Ty1} {y e' : Expr} {p pos : Pos} (hx : Snd c T N sc x y) (hm : mE N x sc y = true) (hg : glB sc "isinstance" = true) (ht : mTy sc tp ts e' = true) :
    Snd c T N sc (.isi x tp ts) (.Call (.Name "isinstance" p) [y, e'] [] pos) := fun X W O => by
  obtain ⟨b1, b2, b3⟩ := isi_name
  cases ho : ownOk T ts with
  | false =>
    refine snd_no O rfl fun env M Q E q => ?_
    have q : cnd (ownOk T ts = true) _ := q
    exact absurd (q.1.symm.trans ho) (by decide)
  | true =>
    obtain ⟨⟨tx, h1, h2⟩, _⟩ := hx X W O
    cases tp with
    | false =>
      have ht : mTys sc ts [e'] = true := ht
      cases ts with
      | nil => simp [mTys] at ht
      | cons t ts => cases ts with
        | cons _ _ => simp [mTys] at ht
        | nil =>
          have ht1 : mTy1 sc t e' = true := by simpa [mTys] using ht
          obtain ⟨p1, f⟩ := ty_pe O ht1 ho
          have pl : (backTo pos (starEach [e'] X.env)).any (·.1) = false := by rw [star_cons f]; rfl
          refine Snd.mk O rfl (pe_callB call_isi (gl_of O hg) (O.bi _ b3) PyProof.Rows.boot_isinstance (pa_cons h1 (pa_cons p1 pa_nil (star_cons f)) (star_cons (mE_fine hm))) b2 b1 (star_cons (mE_fine hm)) pl) fun Z σ H env M Q E k st q he hk => ?_
          refine h2 Z σ H env M _ E _ st q.2 he fun v H1 d M1 s1 ok1 r1 q1 => ?_
          obtain ⟨b, e1, q1⟩ := obn_of q1
          obtain ⟨a, e2, e3⟩ := isA_of e1
          obtain ⟨ty, kn⟩ := tyx_rep O ok1 r1 e2
          refine ⟨v, tyV1 c t, tyU1 c a, tyU1 c t, b, rfl, tyCls c t, ty, ?_, hk _ _ _ _ s1 ok1 (.bl b) q1⟩
          exact Ans.one (v := .non) (fun x hx => kit_isT O kn (mTys_btt ht t List.mem_cons_self) ho hx) e3
    | true =>
      cases e' with
      | Tuple es' kk p2 =>
        have ht : (mTys sc ts es' && decide (ts.length ≤ 1000)) = true := ht
        simp only [Bool.and_eq_true, decide_eq_true_eq] at ht
        obtain ⟨pa, pl0⟩ := tys_pa O ht.1 ho
        have pl : (backTo pos (starEach [.Tuple es' kk p2] X.env)).any (·.1) = false := rfl
        refine Snd.mk O rfl (pe_callB call_isiT (gl_of O hg) (O.bi _ b3) PyProof.Rows.boot_isinstance (pa_cons h1 (pa_cons (pe_tup pa) pa_nil rfl) (star_cons (mE_fine hm))) b2 b1 (star_cons (mE_fine hm)) pl) fun Z σ H env M Q E k st q he hk => ?_
        refine h2 Z σ H env M _ E _ st q.2 he fun v H1 d M1 s1 ok1 r1 q1 => ?_
        obtain ⟨b, e1, q1⟩ := obn_of q1
        obtain ⟨a, e2, e3⟩ := isA_of e1
        refine tTys_run ⟨by rw [List.length_map]; exact le1000 ht.2, fun tp htp => ?_⟩
        have s2 := stp_new (o := .tup (ts.map (tyV1 c))) ok1 htp
        have ok2 := cells_new (o := .tup (ts.map (tyV1 c))) ok1 htp
        obtain ⟨ty, kn⟩ := tyx_rep O ok2 (r1.stp s2) e2
        have an := ans_of (K := X.K) (u := tyU1 c a) (c := c) (f := isT T a) (ts := ts) fun t htm b hb => kit_isT O kn (mTys_btt ht.1 t htm) (ownOk_mem ho htm) hb
        exact ⟨v, tp, _, tyU1 c a, _, b, rfl, upd_same, an.pair, ty, an.any e3, hk _ _ _ _ (s1.trans s2) ok2 (.bl b) q1⟩
      | _ => simp [mTy] at ht
/-! ### a dict written out -/
/-- the pairs of a display with texts for keys -/
theorem disp_pps (O : COk c T N sc X W) {pos : Pos} : ∀ {ks : List PySem.Str} {kes : List (Option Expr)} {ss : List SE} {es : List Expr}, mKs ks kes = true → SndL c T N sc ss es → ks.length = ss.length → ∃ trs, PPs X pos kes es trs ∧ kes.length = es.length ∧ kes.all (·.isSome) = true ∧
    ∀ Z σ H env M (Q : List D → Mm → Prop) E (k : List (V × V) → Hp → Prop), Sta (c.z Z) σ H env M → wEs T ss env M Q E → Exc (c.z Z) W σ H M E →
      (∀ (vs : List V) H' ds M', Stp H M H' M' → Cells (c.z Z) H' M' → Reps (c.z Z) H' M' vs ds → ks.length = vs.length → Q ds M' → k ((ks.map V.str).zip vs) H') → tPairs trs σ H k
  | [], [], [], [], _, .nil, _ => ⟨_, pps_nil, rfl, rfl, fun Z σ H env M Q E k st q he hk => hk [] H [] M .refl st.cells .nil rfl q⟩
  | [], [], _ :: _, _ :: _, _, .cons _ _ _, h => by simp at h
  | [], _ :: _, _, _, h, _, _ => by simp [mKs] at h
  | _ :: _, [], _, _, h, _, _ => by simp [mKs] at h
  | _ :: _, _, [], [], _, .nil, h => by simp at h
  | y :: ks, ke :: kes, s :: ss, e :: es, h, .cons a ha r, hl => by
    cases ke with
    | none => simp [mKs] at h
    | some ke =>
      cases ke with
      | Constant v j p =>
        cases v with
        | str x =>
          simp only [mKs, Bool.and_eq_true, decide_eq_true_eq] at h
          obtain ⟨rfl, h⟩ := h
          obtain ⟨trs, t1, t2, t3, t4⟩ := disp_pps O (pos := pos) h r (by simpa using hl)
          obtain ⟨⟨t, h1, h2⟩, _⟩ := a X W O
          refine ⟨_, pps_cons pe_str h1 t1, by simp [t2], by simp [t3], fun Z σ H env M Q E k st q he hk => ?_⟩
          refine h2 Z σ H env M _ E _ st q he fun v H1 d M1 s1 ok1 r1 q1 => ?_
          refine t4 Z σ H1 env M1 _ E _ (st.stp s1 ok1) q1 (he.stp s1) fun vs H2 ds M2 s2 ok2 r2 z2 q2 => ?_
          exact hk (v :: vs) H2 (d :: ds) M2 (s1.trans s2) ok2 (.cons (r1.stp s2) r2) (by simp [z2]) q2
        | _ => simp [mKs] at h
      | _ => simp [mKs] at h
theorem put_new {kvs : List (Key × V)} {k : Key} {v : V} (h : ∀ p ∈ kvs, p.1 ≠ k) : L2.putK kvs k v = kvs ++ [(k, v)] := by
  have : (kvs.any fun kv => decide (kv.1 = k)) = false := by
    rw [List.any_eq_false]
    intro p hp
    simpa using h p hp
  unfold L2.putK
  rw [this]
  simp
theorem merge_new : ∀ {more kvs : List (Key × V)}, (more.map (·.1)).Nodup → (∀ p ∈ kvs, p.1 ∉ more.map (·.1)) → mergeK kvs more = kvs ++ more
  | [], kvs, _, _ => by simp [mergeK]
  | (a, b) :: r, kvs, nd, h => by
    simp only [List.map_cons, List.nodup_cons] at nd
    have e : L2.putK kvs a b = kvs ++ [(a, b)] := put_new fun p hp q => h p hp (by rw [q]; simp)
    show mergeK (L2.putK kvs a b) r = _
    rw [e, merge_new nd.2]
    · simp
    · intro p hp q
      rcases List.mem_append.mp hp with hp | hp
      · exact h p hp (by simp only [List.map_cons]; exact List.mem_cons_of_mem _ q)
      · simp at hp; subst hp; exact nd.1 q
theorem zip_keys : ∀ (ks : List PySem.Str) (vs : List V), ks.length = vs.length → ((ks.map Sum.inr).zip vs : List (Key × V)).map (fun kv => (kV kv.1, kv.2)) = (ks.map V.str).zip vs
  | [], [], _ => rfl
  | [], _ :: _, h => by simp at h
  | _ :: _, [], h => by simp at h
  | k :: ks, v :: vs, h => by
    simp only [List.map_cons, List.zip_cons_cons, zip_keys ks vs (by simpa using h)]
    rfl
theorem zip_fst : ∀ (ks : List PySem.Str) (vs : List V), ks.length = vs.length → ((ks.map Sum.inr).zip vs : List (Key × V)).map (·.1) = ks.map Sum.inr
  | [], [], _ => rfl
  | [], _ :: _, h => by simp at h
  | _ :: _, [], h => by simp at h
  | k :: ks, v :: vs, h => by simp only [List.map_cons, List.zip_cons_cons, zip_fst ks vs (by simpa using h)]
theorem repk_zip {H : Hp} {M : Mm} : ∀ (ks : List PySem.Str) {vs : List V} {ds : List D}, ks.length = vs.length → Reps c H M vs ds → RepK c H M ((ks.map Sum.inr).zip vs) ((ks.map D.str).zip ds)
  | [], [], _, _, .nil => .nil
  | [], _ :: _, _, h, _ => by simp at h
  | _ :: _, [], _, h, _ => by simp at h
  | k :: ks, v :: vs, _, h, .cons a r => .cons (k := .inr k) a (repk_zip ks (by simpa using h) r)
/-- a hidden place that comes to light -/
theorem Cells.unhide {H : Hp} {M : Mm} {Z Z' : Addr → Prop} (ok : Cells (c.z Z') H M) (h : ∀ a, Z a → Z' a) : Cells (c.z Z) H M :=
  ⟨fun a x e => (ok.at' a x e).zset (c := c.z Z') (Z := Z) fun b z => .inl (h b z), fun a z => ok.z a (h a z)⟩
theorem Cells.hide {H : Hp} {M : Mm} {Z : Addr → Prop} {p : Addr} {o : HO} (ok : Cells (c.z Z) H M) (hp : H p = none) (ho : Hid (upd H p o) p) : Cells (c.z fun a => Z a ∨ a = p) (upd H p o) M := by
  have okn := cells_new (o := o) ok hp
  refine ⟨fun b x e => ?_, fun b z => ?_⟩
  · obtain ⟨u, q⟩ := (ok.at' b x e).there
    have hb := ne_of_none q hp
    refine CellOk.view (H := H) (M := M) ?_ ?_ (upd_ne hb)
    · exact (stp_new ok hp).view
    · exact (ok.at' b x e).zset (c := c.z Z) fun a z => z.imp id fun e => by rw [e]; exact hp
  · rcases z with z | rfl
    · exact okn.z b z
    · exact ⟨ho, ok.fresh hp⟩
theorem Sta.hide {σ : St} {H : Hp} {env : Env} {M : Mm} {Z : Addr → Prop} {p : Addr} {o : HO} (st : Sta (c.z Z) σ H env M) (hp : H p = none) (ho : Hid (upd H p o) p) : Sta (c.z fun a => Z a ∨ a = p) σ (upd H p o) env M := by
  have ok := st.cells.hide hp ho
  have s := stp_new (o := o) st.cells hp
  have hz : ∀ a, (Z a ∨ a = p) → Z a ∨ H a = none := fun a z => z.imp id fun e => by rw [e]; exact hp
  refine ⟨ok, st.len, fun i d e => ?_, fun i a n dd e => ?_⟩
  · obtain ⟨v, h1, h2⟩ := st.env' i d e
    exact ⟨v, h1, (h2.zset (c := c.z Z) hz).view s.view⟩
  · obtain ⟨h1, fs, h2, h3⟩ := st.cur i a n dd e
    refine ⟨h1, fs, h2, h3.imp id ?_⟩
    rintro ⟨x, vs, e1, e2, e3, e4, ne⟩
    exact ⟨x, vs, e1, s.keep _ _ e2 e3, e3, (e4.zset (c := c.z Z) hz).view s.view, ne⟩
/-- a hidden place takes its content -/
theorem view_rev {H2 : Hp} {M2 M3 : Mm} {Z : Addr → Prop} {a : Addr} {o : HO} (hM : ∀ b, b ≠ a → M3 b = M2 b) : View (c.z fun b => Z b ∨ b = a) H2 M2 (upd H2 a o) M3 :=
  have ne : ∀ {b}, Fr (c.z fun b => Z b ∨ b = a) M2 b → b ≠ a := fun n e => n.2 (.inr e)
  have fr : ∀ {b}, Fr (c.z fun b => Z b ∨ b = a) M2 b → Fr (c.z fun b => Z b ∨ b = a) M3 b := fun n => ⟨by rw [hM _ (ne n)]; exact n.1, n.2⟩
  ⟨fun b vs h n => ⟨by rw [upd_ne (ne n)]; exact h, fr n⟩, fun b vs h n => ⟨by unfold Rd at h ⊢; rw [upd_ne (ne n)]; exact h, fr n⟩, fun b vs h n => ⟨by rw [upd_ne (ne n)]; exact h, fr n⟩, fun b vs h n => ⟨by unfold Rd at h ⊢; rw [upd_ne (ne n)]; exact h, fr n⟩, fun b vs h n => ⟨by unfold Rd at h ⊢; rw [upd_ne (ne n)]; exact h, fr n⟩, fun b C dx vs h n => ⟨by rw [upd_ne (ne n)]; exact h, fr n⟩⟩
theorem cells_rev {H2 : Hp} {M2 M3 : Mm} {Z : Addr → Prop} {a : Addr} {o : HO} (nz : ¬ Z a) (ok : Cells (c.z fun b => Z b ∨ b = a) H2 M2) (hM : ∀ b, b ≠ a → M3 b = M2 b)
    (ha : ∀ x, M3 a = some x → CellOk (c.z Z) (upd H2 a o) M3 a x) : Cells (c.z Z) (upd H2 a o) M3 := ⟨fun b x e => by
  by_cases hb : b = a
  · subst hb; exact ha x e
  · rw [hM b hb] at e
    exact ((ok.at' b x e).view (view_rev hM) (upd_ne hb)).zset (c := c.z fun b => Z b ∨ b = a) (Z := Z) fun b z => .inl (.inl z), fun b z => by
  have hb : b ≠ a := fun e => nz (e ▸ z)
  obtain ⟨h1, h2⟩ := ok.z b (.inl z)
  exact ⟨h1.eq (upd_ne hb), by rw [hM b hb]; exact h2⟩⟩
theorem stp_rev {H H2 : Hp} {M M2 M3 : Mm} {Z : Addr → Prop} {a : Addr} {o : HO} (ok : Cells (c.z Z) H M) (ha : H a = none) (s : Stp H M H2 M2) (hM : ∀ b, b ≠ a → M3 b = M2 b) : Stp H M (upd H2 a o) M3 :=
  ⟨fun b u h n => by rw [upd_ne (ne_of_none h ha)]; exact s.keep b u h n, fun b h n => by
    have hb : b ≠ a := fun e => h (e ▸ ha)
    rw [hM b hb]; exact s.nn b h n⟩
/-- an exception's data under other hidden places -/
theorem XRep.unhide {H : Hp} {M : Mm} {cls : Value} {d : Option Addr} {x : XD} {Z Z' : Addr → Prop} (h : XRep (c.z Z') H M cls d x) (hz : ∀ a, Z a → Z' a) : XRep (c.z Z) H M cls d x := by
  obtain ⟨C, h1, h2, h3⟩ := h
  refine ⟨C, h1, h2, h3.imp id ?_⟩
  rintro ⟨a, vs, e1, e2, e3, e4, ne⟩
  exact ⟨a, vs, e1, e2, e3, e4.zset (c := c.z Z') (Z := Z) (fun b z => .inl (hz b z)), ne⟩
theorem Exc.hide {σ : St} {H H' : Hp} {M M' : Mm} {E : QX} {Z Z' : Addr → Prop} (h : Exc (c.z Z) W σ H M E) (s : Stp H M H' M') (hz : ∀ a, Z a → Z' a) : Exc (c.z Z') W σ H' M' E := fun cls d H2 x M2 s2 ok r e =>
  h cls d H2 x M2 (s.trans s2) (ok.unhide hz) (r.unhide hz) e
theorem snd_dct {m : Bool} {ks : List PySem.Str} {ss : List SE} {kes : List (Option Expr)} {es : List Expr} {p : Pos} (h : SndL c T N sc ss es) (hk : mKs ks kes = true) (nd : ks.Nodup) (h0 : 0 < ks.length) (h15 : ks.length ≤ 15) (hl : ks.length = ss.length) :
    Snd c T N sc (.dct m ks ss) (.Dict kes es p) := fun X W O => by
  obtain ⟨trs, t1, t2, t3, t4⟩ := disp_pps O (pos := p) hk h hl
  have lks : ∀ {ks : List PySem.Str} {kes : List (Option Expr)}, mKs ks kes = true → ks.length = kes.length := by
    intro ks
    induction ks with
    | nil => intro kes h; cases kes with
      | nil => rfl
      | cons a r => cases a <;> simp [mKs] at h
    | cons k r ih => intro kes h; cases kes with
      | nil => simp [mKs] at h
      | cons a r' => cases a with
        | none => simp [mKs] at h
        | some e => cases e with
          | Constant v j p => cases v with
            | str y => simp only [mKs, Bool.and_eq_true] at h; simp [ih h.2]
            | _ => simp [mKs] at h
          | _ => simp [mKs] at h
  have hlk := lks hk
  have hne : kes ≠ [] := fun e => by rw [e] at hlk; simp at hlk; rw [hlk] at h0; simp at h0
  refine Snd.mk O rfl (pe_disp t1 t3 t2 hne (by rw [← hlk]; exact h15)) fun Z σ H env M Q E k st q he hk' => fun a ha => ?_
  have hid : Hid (upd H a (.dK [])) a := .inr ⟨_, upd_same⟩
  have s0 := stp_new (o := .dK []) st.cells ha
  refine t4 (fun b => Z b ∨ b = a) σ (upd H a (.dK [])) env M _ E _ (st.hide ha hid) q (he.hide s0 fun _ z => .inl z) fun vs H2 ds M2 s2 ok2 r2 hv q2 => ?_
  have eA : H2 a = some (.dK []) := s2.keep a _ upd_same (st.cells.fresh ha)
  refine ⟨eA, (ks.map Sum.inr).zip vs, (zip_keys ks vs hv).symm, by simp; omega, ?_⟩
  rw [merge_new (by rw [zip_fst ks vs hv]; exact List.Pairwise.map _ (fun a b h q => h (Sum.inr.inj q)) nd) (by simp), List.nil_append]
  have nz : ¬ Z a := fun z => by
    obtain ⟨o, h⟩ := (st.cells.z a z).1.there
    rw [ha] at h; cases h
  have zl : ((ks.map Sum.inr).zip vs : List (Key × V)).length ≤ sizeLine := by
    rw [List.length_zip, List.length_map]
    exact le1000 (by omega)
  cases m with
  | true =>
    have s3 := stp_rev (o := .dK ((ks.map Sum.inr).zip vs)) (M3 := up M2 a (.dct false ((ks.map D.str).zip ds))) st.cells ha (s0.trans s2) fun b hb => up_ne hb
    have vw := view_rev (c := c) (H2 := H2) (Z := Z) (a := a) (o := .dK ((ks.map Sum.inr).zip vs)) (M2 := M2) (M3 := up M2 a (.dct false ((ks.map D.str).zip ds))) fun b hb => up_ne hb
    have r3 := ((repk_zip ks hv r2).view vw).zset (c := c.z fun b => Z b ∨ b = a) (Z := Z) fun b z => .inl (.inl z)
    exact hk' _ _ _ _ s3 (cells_rev nz ok2 (fun b hb => up_ne hb) fun x e => by rw [up_same] at e; cases e; exact .dK upd_same zl r3) (.ref a) (q2 a (ok2.z a (.inr rfl)).2)
  | false =>
    have hM2 : M2 a = none := (ok2.z a (.inr rfl)).2
    have s3 := stp_rev (o := .dK ((ks.map Sum.inr).zip vs)) (M3 := M2) st.cells ha (s0.trans s2) fun b hb => rfl
    have vw := view_rev (c := c) (H2 := H2) (Z := Z) (a := a) (o := .dK ((ks.map Sum.inr).zip vs)) (M2 := M2) (M3 := M2) fun b hb => rfl
    have r3 := ((repk_zip ks hv r2).view vw).zset (c := c.z fun b => Z b ∨ b = a) (Z := Z) fun b z => .inl (.inl z)
    exact hk' _ _ _ _ s3 (cells_rev nz ok2 (fun b hb => rfl) fun x e => by rw [hM2] at e; cases e) (.dK (.inl upd_same) ⟨hM2, nz⟩ zl r3) q2
end
end L3

set_option maxRecDepth 100000
set_option maxHeartbeats 4000000
namespace L3
open PySem L2
section
variable {X : Cx} {c : Cfg} {T : Tab} {N : List PySem.Str} {sc : Scope} {W : WX}
/-! ### readings that are the same in each context -/
def rdE (c : Cfg) (W : WX) (w : WE) : TE := fun σ H k => ∃ Z env M Q E, Sta (c.z Z) σ H env M ∧ w env M Q E ∧ Exc (c.z Z) W σ H M E ∧ Cont (c.z Z) H M Q k
def rdT (c : Cfg) (W : WX) (w : WE) : TT := fun σ H k => ∃ Z env M, ∃ (Q : Bool → Mm → Prop), ∃ E, Sta (c.z Z) σ H env M ∧ w env M (fun d M' => obn (truD M' d) fun b => Q b M') E ∧ Exc (c.z Z) W σ H M E ∧ ContB (c.z Z) H M Q k
theorem Snd.pe {s : SE} {e : Expr} (h : Snd c T N sc s e) (O : COk c T N sc X W) : PE X e (rdE c W (wE T s)) := by
  obtain ⟨⟨t, h1, h2⟩, _⟩ := h X W O
  exact ⟨fun pins s σ H Q I ⟨Z, env, M, Qd, E, st, w, he, hk⟩ => h1.run pins s σ H Q I (h2 Z σ H env M Qd E Q st w he hk)⟩
theorem Snd.pt {s : SE} {e : Expr} (h : Snd c T N sc s e) (O : COk c T N sc X W) : PT X e (rdT c W (wE T s)) := by
  obtain ⟨_, t, h1, h2⟩ := h X W O
  exact ⟨fun pins s σ H Q I ⟨Z, env, M, Qd, E, st, w, he, hk⟩ => h1.run pins s σ H Q I (h2 Z σ H env M Qd E Q st w he hk)⟩
theorem rdE_sat {w : WE} : SatE c W (rdE c W w) w := fun Z σ H env M Q E k st q he hk => ⟨Z, env, M, Q, E, st, q, he, hk⟩
theorem rdT_sat {w : WE} : SatT c W (rdT c W w) w := fun Z σ H env M Q E k st q he hk => ⟨Z, env, M, Q, E, st, q, he, hk⟩
/-! ### what is walked -/
def ItS (c : Cfg) (J : It) (H : Hp) (M : Mm) (items : List D) (chk : Mm → Prop) : Prop :=
  ∀ H' M', Stp H M H' M' → Cells c H' M' → chk M' →
    (∀ i d, items[i]? = some d → J.go i H' ∧ ∀ x H'', J.yld i H' x H'' → Stp H' M' H'' M' ∧ Cells c H'' M' ∧ Rep c H'' M' x d) ∧ ∀ i, items.length ≤ i → J.stop i H'
def SatI (c : Cfg) (T : Tab) (W : WX) (t : TI) (k : ItK) (ss : List SE) : Prop := ∀ Z σ H env M (Q : List D → List D → Mm → Prop) E R, Sta (c.z Z) σ H env M →
  wEs T ss env M (fun ds M1 => obn (itD k ds M1) fun items => Q ds items M1) E → Exc (c.z Z) W σ H M E →
  (∀ J H1 M1 ds items, Stp H M H1 M1 → Cells (c.z Z) H1 M1 → itD k ds M1 = some items → Q ds items M1 →
    (∀ Z', (∀ a, Z' a → Z a ∨ H1 a = none) → ItS (c.z Z') J H1 M1 items (fun M' => itD k ds M' = some items)) → R J H1) → t σ H R
/-- a list or a tuple -/
def iSeq (K : PySem.W.Frag) (tl : TE) : TI := fun σ H R => tl σ H fun x H1 => ∃ a, x = .ref a ∧ (((∃ xs, SqL K H1 a xs) ∧ R (Itl K a) H1) ∨ ((∃ xs, SqT K H1 a xs) ∧ R (Itt K a) H1))
theorem pi_seq {tg l : Expr} {tl : TE} (hl : PE X l tl) : PI X tg l (iSeq X.K tl) := by
  refine ⟨fun pins s σ H R I h => ?_⟩
  refine thn (hl.run pins s σ H _ I h) fun v s1 ⟨x, H1, I1, r1, q1⟩ => ?_
  obtain ⟨a, rfl, q1⟩ := q1
  cases r1
  have fr : ∀ b ∈ [s1.heap.objs.size], FpOk X pins H1 b := fun b hb => by
    obtain rfl : b = s1.heap.objs.size := by simpa using hb
    exact I1.fpOk (Nat.le_refl _) (I1.hok.fresh (Nat.le_refl _))
  rcases q1 with ⟨⟨xs, hq⟩, q⟩ | ⟨⟨xs, hq⟩, q⟩
  · obtain ⟨its, rv, p, hz⟩ := I1.list hq
    exact wpAny_pyIter_list p.isList ⟨s1.heap.objs.size, [s1.heap.objs.size], _, _, H1, rfl, I1.kept (t' := s1.toks) fun b o e => Heap.get?_push_of_some _ e, turn_list a _, ⟨_, Heap.get?_push_size _ rfl, rfl, rfl⟩, fr, q⟩
  · obtain ⟨its, rv, p, hz⟩ := I1.tuple hq
    exact wpAny_pyIter_tuple (show s1.heap.IsTuple a its.toArray from p) ⟨s1.heap.objs.size, [s1.heap.objs.size], _, _, H1, rfl, I1.kept (t' := s1.toks) fun b o e => Heap.get?_push_of_some _ e, turn_tuple a _, ⟨_, Heap.get?_push_size _ rfl, rfl, rfl⟩, fr, q⟩
def isTupD : D → Bool
  | .tup _ => true
  | .ro t _ => t
  | _ => false
theorem rep_seqK {H : Hp} {M : Mm} (ok : Cells c H M) {v : V} {d : D} {ds : List D} (r : Rep c H M v d) (h : seqD M d = some ds) :
    ∃ a vs, v = .ref a ∧ (isTupD d = false → SqL c.K H a vs) ∧ (isTupD d = true → SqT c.K H a vs) ∧ vs.length ≤ sizeLine ∧ Reps c H M vs ds := by
  cases r with
  | lst h1 n z q => cases h; exact ⟨_, _, rfl, fun _ => SqL.of h1, (fun e => nomatch e), z, q⟩
  | tup h1 n z q => cases h; exact ⟨_, _, rfl, (fun e => nomatch e), fun _ => SqT.of h1, z, q⟩
  | roL h1 z q => cases h; exact ⟨_, _, rfl, fun _ => KL.sq h1, (fun e => nomatch e), z, q⟩
  | roT h1 z q => cases h; exact ⟨_, _, rfl, (fun e => nomatch e), fun _ => .inr h1, z, q⟩
  | ref a =>
    cases e : M a with
    | none => simp [seqD, e] at h
    | some x =>
      cases x with
      | lst es =>
        simp [seqD, e] at h; subst h
        cases ok.at' a _ e with
        | lst h1 z q => exact ⟨a, _, rfl, fun _ => SqL.of h1, (fun e => nomatch e), z, q⟩
      | dct t k => simp [seqD, e] at h
      | ins n f => simp [seqD, e] at h
  | _ => cases h
theorem get_len {α : Type} {xs : List α} {i : Nat} {x : α} (h : xs[i]? = some x) : i < xs.length := by
  rcases Nat.lt_or_ge i xs.length with h' | h'
  · exact h'
  · rw [List.getElem?_eq_none h'] at h; cases h
theorem it_seqL {K : PySem.W.Frag} (hK : K = c.K) {H : Hp} {M : Mm} {a : Addr} {d : D} {items : List D} (r : Rep c H M (.ref a) d) (ht : isTupD d = false) :
    ItS c (Itl K a) H M items (fun M' => seqD M' d = some items) := fun H' M' s ok ch => by
  subst hK
  obtain ⟨b, vs, e, h1, _, _, q⟩ := rep_seqK ok (r.stp s) ch
  cases e
  have hs := h1 ht
  refine ⟨fun i d' hi => ?_, fun i hi => ⟨vs, hs, by rw [q.len]; exact hi⟩⟩
  obtain ⟨v, g1, g2⟩ := q.get hi
  refine ⟨⟨vs, v, hs, g1⟩, fun x H'' y => ?_⟩
  obtain ⟨rfl, y⟩ := y
  have := y vs hs
  rw [g1] at this; cases this
  exact ⟨.refl, ok, g2⟩
theorem it_seqT {K : PySem.W.Frag} (hK : K = c.K) {H : Hp} {M : Mm} {a : Addr} {d : D} {items : List D} (r : Rep c H M (.ref a) d) (ht : isTupD d = true) :
    ItS c (Itt K a) H M items (fun M' => seqD M' d = some items) := fun H' M' s ok ch => by
  subst hK
  obtain ⟨b, vs, e, _, h1, _, q⟩ := rep_seqK ok (r.stp s) ch
  cases e
  have hs := h1 ht
  refine ⟨fun i d' hi => ?_, fun i hi => ⟨vs, hs, by rw [q.len]; exact hi⟩⟩
  obtain ⟨v, g1, g2⟩ := q.get hi
  refine ⟨⟨vs, v, hs, g1⟩, fun x H'' y => ?_⟩
  obtain ⟨rfl, y⟩ := y
  have := y vs hs
  rw [g1] at this; cases this
  exact ⟨.refl, ok, g2⟩
theorem it_rng {H : Hp} {M : Mm} {lo : Int} {n : Nat} {chk : Mm → Prop} : ItS c (Itr lo n) H M (rngL lo n) chk := fun H' M' s ok ch => by
  refine ⟨fun i d' hi => ?_, fun i hi => by show n ≤ i; simpa [rngL] using hi⟩
  have hl : i < n := by simpa [rngL] using get_len hi
  refine ⟨hl, fun x H'' y => ?_⟩
  obtain ⟨rfl, rfl⟩ := y
  have e : d' = .int (lo + i) := by simpa [rngL, hl] using hi.symm
  subst e
  exact ⟨.refl, ok, .int _⟩
theorem enum_get : ∀ {ds : List D} {n i : Nat} {d : D}, (enumFrom n ds)[i]? = some d → ∃ e, ds[i]? = some e ∧ d = .tup [.int ((n + i : Nat) : Int), e]
  | [], _, _, _, h => by simp [enumFrom] at h
  | e :: r, n, 0, d, h => by simp [enumFrom] at h; exact ⟨e, rfl, h.symm⟩
  | e :: r, n, i + 1, d, h => by
    obtain ⟨e', h1, h2⟩ := enum_get (ds := r) (n := n + 1) (i := i) (d := d) (by simpa [enumFrom] using h)
    exact ⟨e', by simpa using h1, by rw [h2, show n + 1 + i = n + (i + 1) by omega]⟩
theorem enum_len : ∀ {ds : List D} {n : Nat}, (enumFrom n ds).length = ds.length
  | [], _ => rfl
  | e :: r, n => by simp [enumFrom, enum_len (ds := r)]
theorem zip_get : ∀ {ds es : List D} {i : Nat} {d : D}, (zipL ds es)[i]? = some d → ∃ x y, ds[i]? = some x ∧ es[i]? = some y ∧ d = .tup [x, y]
  | [], _, _, _, h => by simp [zipL] at h
  | _ :: _, [], _, _, h => by simp [zipL] at h
  | x :: r, y :: t, 0, d, h => by simp [zipL] at h; exact ⟨x, y, rfl, rfl, h.symm⟩
  | x :: r, y :: t, i + 1, d, h => by
    obtain ⟨x', y', h1, h2, h3⟩ := zip_get (ds := r) (es := t) (i := i) (d := d) (by simpa [zipL] using h)
    exact ⟨x', y', by simpa using h1, by simpa using h2, h3⟩
theorem zip_len : ∀ {ds es : List D}, (zipL ds es).length = min ds.length es.length
  | [], _ => by simp [zipL]
  | _ :: _, [] => by simp [zipL]
  | x :: r, y :: t => by simp only [zipL, List.length_cons, zip_len (ds := r) (es := t)]; omega
theorem pair_new {H : Hp} {M : Mm} {p : Addr} {v w : V} {d e : D} (ok : Cells c H M) (hp : H p = none) (r1 : Rep c H M v d) (r2 : Rep c H M w e) :
    Stp H M (upd H p (.tup [v, w])) M ∧ Cells c (upd H p (.tup [v, w])) M ∧ Rep c (upd H p (.tup [v, w])) M (.ref p) (.tup [d, e]) := by
  have s := stp_new (o := .tup [v, w]) ok hp
  exact ⟨s, cells_new ok hp, .tup upd_same (ok.free hp) (le1000 (by show 2 ≤ 1000; decide)) (.cons (r1.stp s) (.cons (r2.stp s) .nil))⟩
theorem it_enum {K : PySem.W.Frag} (hK : K = c.K) {H : Hp} {M : Mm} {a : Addr} {d : D} {ds : List D} (r : Rep c H M (.ref a) d) :
    ItS c (Ite K a) H M (enumFrom 0 ds) (fun M' => ∃ es, lstD M' d = some es ∧ enumFrom 0 es = enumFrom 0 ds) := fun H' M' s ok ⟨es, ch, ee⟩ => by
  subst hK
  obtain ⟨b, vs, e, h1, _, q⟩ := rep_lst ok (r.stp s) ch
  cases e
  have hs : SqL c.K H' a vs := SqL.of h1
  rw [← ee]
  refine ⟨fun i d' hi => ?_, fun i hi => ⟨vs, hs, by rw [q.len]; rw [enum_len] at hi; exact hi⟩⟩
  obtain ⟨e, g0, rfl⟩ := enum_get hi
  obtain ⟨v, g1, g2⟩ := q.get g0
  refine ⟨⟨vs, v, hs, g1⟩, fun x H'' y => ?_⟩
  obtain ⟨p, x', rfl, hp, rfl, y⟩ := y
  have := y vs hs
  rw [g1] at this; cases this
  rw [Nat.zero_add]
  exact pair_new ok hp (.int _) g2
theorem it_zip {K : PySem.W.Frag} (hK : K = c.K) {H : Hp} {M : Mm} {a b : Addr} {d d2 : D} {items : List D} (r : Rep c H M (.ref a) d) (r2 : Rep c H M (.ref b) d2) :
    ItS c (Itz K a b) H M items (fun M' => ∃ ds es, lstD M' d = some ds ∧ lstD M' d2 = some es ∧ zipL ds es = items) := fun H' M' s ok ⟨ds, es, ch, ch2, ee⟩ => by
  subst hK
  obtain ⟨a', vs, e, h1, _, q⟩ := rep_lst ok (r.stp s) ch
  cases e
  obtain ⟨b', ws, e, h2, _, q2⟩ := rep_lst ok (r2.stp s) ch2
  cases e
  have hs : SqL c.K H' a vs := SqL.of h1
  have hs2 : SqL c.K H' b ws := SqL.of h2
  rw [← ee]
  refine ⟨fun i d' hi => ?_, fun i hi => ⟨vs, ws, hs, hs2, by rw [q.len, q2.len]; rw [zip_len] at hi; omega⟩⟩
  obtain ⟨x, y, g0, k0, rfl⟩ := zip_get hi
  obtain ⟨v, g1, g2⟩ := q.get g0
  obtain ⟨w, k1, k2⟩ := q2.get k0
  refine ⟨⟨vs, ws, v, w, hs, hs2, g1, k1⟩, fun x H'' y => ?_⟩
  obtain ⟨p, x', y', rfl, hp, rfl, y1, y2⟩ := y
  have := y1 vs hs
  rw [g1] at this; cases this
  have := y2 ws hs2
  rw [k1] at this; cases this
  exact pair_new ok hp g2 k2
theorem it_zipM {K : PySem.W.Frag} (hK : K = c.K) {H : Hp} {M : Mm} {a b : Addr} {d : D} {es items : List D} (r : Rep c H M (.ref a) d) (r2 : Rep c H M (.ref b) (.tup es)) :
    ItS c (ItzM K a b) H M items (fun M' => ∃ ds, lstD M' d = some ds ∧ zipL ds es = items) := fun H' M' s ok ⟨ds, ch, ee⟩ => by
  subst hK
  obtain ⟨a', vs, e, h1, _, q⟩ := rep_lst ok (r.stp s) ch
  cases e
  have r2' := r2.stp s
  cases r2' with
  | tup h2 n2 z2 q2 =>
    rename_i ws
    have hs : SqL c.K H' a vs := SqL.of h1
    have hs2 : SqT c.K H' b ws := SqT.of h2
    rw [← ee]
    refine ⟨fun i d' hi => ?_, fun i hi => ⟨vs, ws, hs, hs2, by rw [q.len, q2.len]; rw [zip_len] at hi; omega⟩⟩
    obtain ⟨x, y, g0, k0, rfl⟩ := zip_get hi
    obtain ⟨v, g1, g2⟩ := q.get g0
    obtain ⟨w, k1, k2⟩ := q2.get k0
    refine ⟨⟨vs, ws, v, w, hs, hs2, g1, k1⟩, fun x H'' y => ?_⟩
    obtain ⟨p, x', y', rfl, hp, rfl, y1, y2⟩ := y
    have := y1 vs hs
    rw [g1] at this; cases this
    have := y2 ws hs2
    rw [k1] at this; cases this
    exact pair_new ok hp g2 k2
end
end L3

set_option maxRecDepth 100000
set_option maxHeartbeats 4000000
namespace L3
open PySem L2
section
variable {X : Cx} {c : Cfg} {T : Tab} {N : List PySem.Str} {sc : Scope} {W : WX}
inductive ItE (c : Cfg) (T : Tab) (N : List PySem.Str) (sc : Scope) : ItK → Tg → List SE → Expr → Prop
  | seq {s : SE} {it : Expr} {tg : Tg} : Snd c T N sc s it → mE N s sc it = true → ItE c T N sc .seq tg [s] it
  | rng1 {s : SE} {b : Expr} {tg : Tg} {p pos : Pos} : SndL c T N sc [s] [b] → glB sc "range" = true → ItE c T N sc .rng1 tg [s] (.Call (.Name "range" p) [b] [] pos)
  | rng2 {s s' : SE} {b d : Expr} {tg : Tg} {p pos : Pos} : SndL c T N sc [s, s'] [b, d] → glB sc "range" = true → ItE c T N sc .rng2 tg [s, s'] (.Call (.Name "range" p) [b, d] [] pos)
  | enum {s : SE} {b : Expr} {tg : Tg} {p pos : Pos} : SndL c T N sc [s] [b] → glB sc "enumerate" = true → isTp tg = true → ItE c T N sc .enum tg [s] (.Call (.Name "enumerate" p) [b] [] pos)
  | zip {s s' : SE} {b d : Expr} {tg : Tg} {p pos : Pos} : SndL c T N sc [s, s'] [b, d] → glB sc "zip" = true → isTp tg = true → ItE c T N sc .zip tg [s, s'] (.Call (.Name "zip" p) [b, d] [] pos)
  | zipM {s s' : SE} {b d : Expr} {tg : Tg} {p pos : Pos} : SndL c T N sc [s, s'] [b, d] → glB sc "zip" = true → isTp tg = true → ItE c T N sc .zipM tg [s, s'] (.Call (.Name "zip" p) [b, d] [] pos)
theorem it_names : ("range" : PySem.Str) ∈ bnames ∧ ("enumerate" : PySem.Str) ∈ bnames ∧ ("zip" : PySem.Str) ∈ bnames := by decide +kernel
theorem SndL.h1 : ∀ {s : SE} {b : Expr}, SndL c T N sc [s] [b] → mE N s sc b = true
  | _, _, .cons _ h _ => h
theorem SndL.h2 : ∀ {s s' : SE} {b d : Expr}, SndL c T N sc [s, s'] [b, d] → mE N s sc b = true ∧ mE N s' sc d = true
  | _, _, _, _, .cons _ h (.cons _ h' _) => ⟨h, h'⟩
theorem Reps.zset' {H : Hp} {M : Mm} {Z Z' : Addr → Prop} {vs : List V} {ds : List D} (h : Reps (c.z Z) H M vs ds) (hz : ∀ a, Z' a → Z a ∨ H a = none) : Reps (c.z Z') H M vs ds := h.zset (c := c.z Z) hz
theorem Rep.zset' {H : Hp} {M : Mm} {Z Z' : Addr → Prop} {v : V} {d : D} (h : Rep (c.z Z) H M v d) (hz : ∀ a, Z' a → Z a ∨ H a = none) : Rep (c.z Z') H M v d := h.zset (c := c.z Z) hz
theorem lst_ref {H : Hp} {M : Mm} {v : V} {d : D} {ds : List D} (ok : Cells c H M) (r : Rep c H M v d) (h : lstD M d = some ds) : ∃ a vs, v = .ref a ∧ SqL c.K H a vs := by
  obtain ⟨a, vs, rfl, h1, _⟩ := rep_lst ok r h
  exact ⟨a, vs, rfl, SqL.of h1⟩
theorem rng1_of {ds items : List D} {M : Mm} (h : itD .rng1 ds M = some items) : ∃ n, ds = [.int n] ∧ n < 2 ^ 62 ∧ -(2 ^ 62) ≤ n ∧ items = rngL 0 n.toNat := by
  cases ds with
  | nil => cases h
  | cons d r => cases r with
    | cons _ _ => cases d <;> cases h
    | nil => cases d with
      | int n =>
        change (if n < 2 ^ 62 ∧ -(2 ^ 62) ≤ n then some (rngL 0 n.toNat) else none) = some items at h
        split at h
        · rename_i hn; cases h; exact ⟨n, rfl, hn.1, hn.2, rfl⟩
        · cases h
      | _ => cases h
theorem rng2_of {ds items : List D} {M : Mm} (h : itD .rng2 ds M = some items) : ∃ a b, ds = [.int a, .int b] ∧ ((-(2 ^ 62) ≤ a ∧ a < 2 ^ 62) ∧ -(2 ^ 62) ≤ b ∧ b < 2 ^ 62) ∧ items = rngL a (b - a).toNat := by
  cases ds with
  | nil => cases h
  | cons d r => cases r with
    | nil => cases d <;> cases h
    | cons e r => cases r with
      | cons _ _ => cases d <;> cases e <;> cases h
      | nil => cases d with
        | int a => cases e with
          | int b =>
            change (if (-(2 ^ 62) ≤ a ∧ a < 2 ^ 62) ∧ -(2 ^ 62) ≤ b ∧ b < 2 ^ 62 then some (rngL a (b - a).toNat) else none) = some items at h
            split at h
            · rename_i hn; cases h; exact ⟨a, b, rfl, hn, rfl⟩
            · cases h
          | _ => cases h
        | _ => cases h
theorem enum_of {ds items : List D} {M : Mm} (h : itD .enum ds M = some items) : ∃ d es, ds = [d] ∧ lstD M d = some es ∧ items = enumFrom 0 es := by
  cases ds with
  | nil => cases h
  | cons d r => cases r with
    | cons _ _ => cases h
    | nil =>
      change (match lstD M d with | some ds => some (enumFrom 0 ds) | none => none) = some items at h
      cases e : lstD M d with
      | none => rw [e] at h; cases h
      | some es => rw [e] at h; cases h; exact ⟨d, es, rfl, e, rfl⟩
theorem zipM_of {ds items : List D} {M : Mm} (h : itD .zipM ds M = some items) : ∃ d xs ys, ds = [d, .tup ys] ∧ lstD M d = some xs ∧ zipL xs ys = items := by
  match ds, h with
  | [d, .tup ys], h =>
    change (match lstD M d with | some ds => some (zipL ds ys) | none => none) = some items at h
    cases e : lstD M d with
    | none => rw [e] at h; cases h
    | some xs => rw [e] at h; cases h; exact ⟨d, xs, ys, rfl, e, rfl⟩
theorem zip_of {ds items : List D} {M : Mm} (h : itD .zip ds M = some items) : ∃ d e xs ys, ds = [d, e] ∧ lstD M d = some xs ∧ lstD M e = some ys ∧ zipL xs ys = items := by
  cases ds with
  | nil => cases h
  | cons d r => cases r with
    | nil => cases h
    | cons e r => cases r with
      | cons _ _ => cases h
      | nil =>
        change (match lstD M d with | some ds => (match lstD M e with | some es => some (zipL ds es) | none => none) | none => none) = some items at h
        cases e1 : lstD M d with
        | none => rw [e1] at h; cases h
        | some xs => cases e2 : lstD M e with
          | none => rw [e1, e2] at h; cases h
          | some ys => rw [e1, e2] at h; cases h; exact ⟨d, e, xs, ys, rfl, e1, e2, rfl⟩
theorem it_ok (O : COk c T N sc X W) {k : ItK} {tg : Tg} {ss : List SE} {it tgE : Expr} (h : ItE c T N sc k tg ss it) (ht : isTp tg = true → ∃ elts kk tpos, tgE = .Tuple elts kk tpos) : ∃ wi, PI X tgE it wi ∧ SatI c T W wi k ss := by
  obtain ⟨nr, ne, nz⟩ := it_names
  cases h with
  | seq hs hm =>
    obtain ⟨⟨t, h1, h2⟩, _⟩ := hs X W O
    refine ⟨_, pi_seq h1, fun Z σ H env M Q E R st q he hk => ?_⟩
    refine h2 Z σ H env M _ E _ st q he fun v H1 d M1 s1 ok1 r1 q1 => ?_
    obtain ⟨items, e1, q1⟩ := obn_of q1
    have e1' : seqD M1 d = some items := e1
    obtain ⟨a, vs, rfl, g1, g2, _, _⟩ := rep_seqK ok1 r1 e1'
    refine ⟨a, rfl, ?_⟩
    cases tt : isTupD d with
    | false => exact .inl ⟨⟨vs, by rw [O.K]; exact g1 tt⟩, hk _ H1 M1 [d] items s1 ok1 e1 q1 fun Z' hz => it_seqL (c := c.z Z') O.K (r1.zset' hz) tt⟩
    | true => exact .inr ⟨⟨vs, by rw [O.K]; exact g2 tt⟩, hk _ H1 M1 [d] items s1 ok1 e1 q1 fun Z' hz => it_seqT (c := c.z Z') O.K (r1.zset' hz) tt⟩
  | rng1 hs hg =>
    obtain ⟨t, h1, h2⟩ := hs.pa O
    refine ⟨_, pi_range1 (gl_of O hg) (O.bi _ nr) h1 (star_cons (mE_fine hs.h1)), fun Z σ H env M Q E R st q he hk => ?_⟩
    refine h2 Z σ H env M _ E _ st q he fun vs H1 ds M1 s1 ok1 r1 q1 => ?_
    obtain ⟨items, e1, q1⟩ := obn_of q1
    have e0 := e1
    obtain ⟨n, rfl, h3, h4, rfl⟩ := rng1_of e1
    obtain ⟨v, rfl, rv⟩ := reps1 r1
    rw [rep_int rv]
    exact ⟨n, rfl, h4, h3, hk _ H1 M1 [.int n] _ s1 ok1 e0 q1 fun Z' hz => it_rng⟩
  | rng2 hs hg =>
    obtain ⟨t, h1, h2⟩ := hs.pa O
    obtain ⟨m1, m2⟩ := hs.h2
    refine ⟨_, pi_range2 (gl_of O hg) (O.bi _ nr) h1 (by rw [star_cons (mE_fine m1), star_cons (mE_fine m2)]; rfl) (by rw [star_cons (mE_fine m2)]; rfl), fun Z σ H env M Q E R st q he hk => ?_⟩
    refine h2 Z σ H env M _ E _ st q he fun vs H1 ds M1 s1 ok1 r1 q1 => ?_
    obtain ⟨items, e1, q1⟩ := obn_of q1
    have e0 := e1
    obtain ⟨a, b, rfl, hn, rfl⟩ := rng2_of e1
    obtain ⟨v, w, rfl, rv, rw'⟩ := reps2 r1
    rw [rep_int rv, rep_int rw']
    exact ⟨a, b, rfl, ⟨hn.1.1, hn.1.2, hn.2.1, hn.2.2⟩, hk _ H1 M1 [.int a, .int b] _ s1 ok1 e0 q1 fun Z' hz => it_rng⟩
  | enum hs hg htp =>
    obtain ⟨elts, kk, tpos, rfl⟩ := ht htp
    obtain ⟨t, h1, h2⟩ := hs.pa O
    refine ⟨_, pi_enum (gl_of O hg) (O.bi _ ne) h1 (star_cons (mE_fine hs.h1)), fun Z σ H env M Q E R st q he hk => ?_⟩
    refine h2 Z σ H env M _ E _ st q he fun vs H1 ds M1 s1 ok1 r1 q1 => ?_
    obtain ⟨items, e1, q1⟩ := obn_of q1
    have e0 := e1
    obtain ⟨d, es, rfl, el, rfl⟩ := enum_of e1
    obtain ⟨v, rfl, rv⟩ := reps1 r1
    obtain ⟨a, ws, rfl, hs'⟩ := lst_ref ok1 rv el
    refine ⟨a, ws, rfl, by rw [O.K]; exact hs', hk _ H1 M1 [d] _ s1 ok1 e0 q1 fun Z' hz => ?_⟩
    intro H' M' s ok ch
    refine it_enum (c := c.z Z') (ds := es) O.K (rv.zset' hz) H' M' s ok ?_
    obtain ⟨d', es', ed, el', ee⟩ := enum_of ch
    cases ed
    exact ⟨es', el', ee.symm⟩
  | zip hs hg htp =>
    obtain ⟨elts, kk, tpos, rfl⟩ := ht htp
    obtain ⟨t, h1, h2⟩ := hs.pa O
    obtain ⟨m1, m2⟩ := hs.h2
    refine ⟨_, pi_zip (gl_of O hg) (O.bi _ nz) h1 (star_cons (mE_fine m1)) (by rw [star_cons (mE_fine m2)]; rfl), fun Z σ H env M Q E R st q he hk => ?_⟩
    refine h2 Z σ H env M _ E _ st q he fun vs H1 ds M1 s1 ok1 r1 q1 => ?_
    obtain ⟨items, e1, q1⟩ := obn_of q1
    have e0 := e1
    obtain ⟨d, d2, es, fs, rfl, el, el2, rfl⟩ := zip_of e1
    obtain ⟨v, w, rfl, rv, rw'⟩ := reps2 r1
    obtain ⟨a, ws, rfl, hs'⟩ := lst_ref ok1 rv el
    obtain ⟨b, us, rfl, hs2⟩ := lst_ref ok1 rw' el2
    refine ⟨a, b, ws, us, rfl, by rw [O.K]; exact hs', by rw [O.K]; exact hs2, hk _ H1 M1 [d, d2] _ s1 ok1 e0 q1 fun Z' hz => ?_⟩
    intro H' M' s ok ch
    refine it_zip (c := c.z Z') O.K (rv.zset' hz) (rw'.zset' hz) H' M' s ok ?_
    obtain ⟨d', d2', es', fs', ed, el', el2', ee⟩ := zip_of ch
    cases ed
    exact ⟨es', fs', el', el2', ee⟩
  | zipM hs hg htp =>
    obtain ⟨elts, kk, tpos, rfl⟩ := ht htp
    obtain ⟨t, h1, h2⟩ := hs.pa O
    obtain ⟨m1, m2⟩ := hs.h2
    refine ⟨_, pi_zipM (gl_of O hg) (O.bi _ nz) h1 (star_cons (mE_fine m1)) (by rw [star_cons (mE_fine m2)]; rfl), fun Z σ H env M Q E R st q he hk => ?_⟩
    refine h2 Z σ H env M _ E _ st q he fun vs H1 ds M1 s1 ok1 r1 q1 => ?_
    obtain ⟨items, e1, q1⟩ := obn_of q1
    have e0 := e1
    obtain ⟨d, es, fs, rfl, el, rfl⟩ := zipM_of e1
    obtain ⟨v, w, rfl, rv, rw'⟩ := reps2 r1
    obtain ⟨a, ws, rfl, hs'⟩ := lst_ref ok1 rv el
    have rw2 := rw'
    cases rw' with
    | tup g2 n2 z2 q2 =>
    refine ⟨_, _, ws, _, rfl, by rw [O.K]; exact hs', SqT.of g2, hk _ H1 M1 [d, .tup fs] _ s1 ok1 e0 q1 fun Z' hz => ?_⟩
    intro H' M' s ok ch
    refine it_zipM (c := c.z Z') (es := fs) O.K (rv.zset' hz) (rw2.zset' hz) H' M' s ok ?_
    obtain ⟨d', es', fs', ed, el', ee⟩ := zipM_of ch
    cases ed
    exact ⟨es', el', ee⟩
/-! ### targets -/
theorem wipe_set {σ : St} {i : Nat} {v : V} : ∀ {vs : List Nat}, i ∈ vs → wipe (σ.set i (some v)) vs = wipe σ vs
  | [], h => by cases h
  | j :: vs, h => by
    show (wipe (σ.set i (some v)) vs).set j none = (wipe σ vs).set j none
    by_cases hi : i ∈ vs
    · rw [wipe_set hi]
    · have e : j = i := ((List.mem_cons.mp h).resolve_right hi).symm
      subst e
      rw [wipe_comm hi, List.set_set]
where wipe_comm {σ : St} {i : Nat} {v : V} : ∀ {vs : List Nat}, i ∉ vs → wipe (σ.set i (some v)) vs = (wipe σ vs).set i (some v)
  | [], _ => rfl
  | j :: vs, h => by
    simp only [List.mem_cons, not_or] at h
    show (wipe (σ.set i (some v)) vs).set j none = ((wipe σ vs).set j none).set i (some v)
    rw [wipe_comm h.2, List.set_comm _ _ h.1]
def wipeE (env : Env) : List Nat → Env
  | [] => env
  | v :: vs => (wipeE env vs).set v none
theorem wipeE_comm {env : Env} {i : Nat} {v : Option D} : ∀ {vs : List Nat}, i ∉ vs → wipeE (env.set i v) vs = (wipeE env vs).set i v
  | [], _ => rfl
  | j :: vs, h => by
    simp only [List.mem_cons, not_or] at h
    show (wipeE (env.set i v) vs).set j none = ((wipeE env vs).set j none).set i v
    rw [wipeE_comm h.2, List.set_comm _ _ h.1]
theorem setAll_wipe : ∀ {is : List Nat} {ds : List D} {env env' : Env}, is.Nodup → setAll is ds env = some env' → setAll is ds (wipeE env is) = some env'
  | [], [], env, env', _, h => h
  | [], _ :: _, _, _, _, h => by cases h
  | _ :: _, [], _, _, _, h => by cases h
  | i :: is, d :: ds, env, env', nd, h => by
    simp only [List.nodup_cons] at nd
    show setAll is ds (((wipeE env is).set i none).set i (some d)) = some env'
    rw [List.set_set, ← wipeE_comm nd.1]
    exact setAll_wipe nd.2 h
theorem bindT_wipe {tg : Tg} {d : D} {M : Mm} {env env' : Env} (nd : (tgIx tg).Nodup) (h : bindT tg d M env = some env') : bindT tg d M (wipeE env (tgIx tg)) = some env' := by
  cases tg with
  | nm i =>
    show some (((env.set i none)).set i (some d)) = some env'
    rw [List.set_set]; exact h
  | tp is =>
    unfold bindT at h ⊢
    cases d with
    | tup ds => exact setAll_wipe nd h
    | _ => cases h
theorem Sta.wipe {σ : St} {H : Hp} {env : Env} {M : Mm} (st : Sta c σ H env M) (hc : c.cur = none) : ∀ (vs : List Nat), Sta c (L2.wipe σ vs) H (wipeE env vs) M
  | [] => st
  | v :: vs => (Sta.wipe st hc vs).unset v none (by unfold Cfg.at; rw [hc])
def SatG (c : Cfg) (g : TG) (tg : Tg) : Prop := ∀ Z σ H env M v d env' k, Sta (c.z Z) σ H env M → Rep (c.z Z) H M v d → bindT tg d M env = some env' →
  (∀ σ', Sta (c.z Z) σ' H env' M → L2.wipe σ' (tgIx tg) = L2.wipe σ (tgIx tg) → k σ' H) → g v σ H k
def SatGs (c : Cfg) (g : TGs) (is : List Nat) : Prop := ∀ Z σ H env M vs ds env' k, Sta (c.z Z) σ H env M → Reps (c.z Z) H M vs ds → setAll is ds env = some env' →
  (∀ σ', Sta (c.z Z) σ' H env' M → (∀ js, (∀ i ∈ is, i ∈ js) → L2.wipe σ' js = L2.wipe σ js) → k σ' H) → g vs σ H k
theorem sat_gs (h : ∀ i ∈ ([] : List Nat), True) : SatGs c gNil [] := fun Z σ H env M vs ds env' k st r e hk => by
  cases ds with
  | nil => cases r; cases e; exact ⟨rfl, hk σ st fun _ _ => rfl⟩
  | cons _ _ => cases e
theorem sat_gcons {i : Nat} {is : List Nat} {g : TGs} (hi : c.at i = false) (h : SatGs c g is) : SatGs c (gCons (gName i) g) (i :: is) := fun Z σ H env M vs ds env' k st r e hk => by
  cases ds with
  | nil => cases e
  | cons d ds =>
    cases r with
    | cons a r =>
      refine ⟨_, _, rfl, ?_⟩
      refine h Z _ H _ M _ ds env' k (st.set a i hi) r e fun σ' st' hw => hk σ' st' fun js hj => ?_
      rw [hw js fun x hx => hj x (List.mem_cons_of_mem _ hx), wipe_set (hj i List.mem_cons_self)]
theorem sat_gname {i : Nat} (hi : c.at i = false) : SatG c (gName i) (.nm i) := fun Z σ H env M v d env' k st r e hk => by
  cases e
  exact hk _ (st.set r i hi) (wipe_set List.mem_cons_self)
theorem sat_gtup {K : PySem.W.Frag} (hK : K = c.K) {is : List Nat} {g : TGs} (h : SatGs c g is) : SatG c (gTup K is.length g) (.tp is) := fun Z σ H env M v d env' k st r e hk => by
  subst hK
  unfold bindT at e
  cases d with
  | tup ds =>
    cases r with
    | tup h1 n z q =>
      refine ⟨_, _, rfl, SqT.of h1, ?_, h Z σ H env M _ ds env' k st q e fun σ' st' hw => hk σ' st' (hw _ fun _ h => h)⟩
      rw [q.len]
      exact setAll_len e
  | _ => cases e
where setAll_len : ∀ {is : List Nat} {ds : List D} {env env' : Env}, setAll is ds env = some env' → ds.length = is.length
  | [], [], _, _, _ => rfl
  | [], _ :: _, _, _, h => by cases h
  | _ :: _, [], _, _, h => by cases h
  | _ :: is, _ :: ds, _, _, h => by simp [setAll_len (is := is) (ds := ds) h]
end
end L3

set_option maxRecDepth 100000
set_option maxHeartbeats 4000000
namespace L3
open PySem L2
section
variable {X : Cx} {c : Cfg} {T : Tab} {N : List PySem.Str} {sc : Scope} {W : WX}
/-! ### targets as read -/
theorem N_get {i : Nat} {x : PySem.Str} (O : COk c T N sc X W) (h : N[i]? = some x) : X.N[i]? = some x := by rw [O.N]; exact h
/-- a name that is set in a context -/
def SetB (X : Cx) (x : PySem.Str) : Prop := Loc X.env.scope x ∧ (X.fn x = true ∨ X.env.scope.names.lookup x = some .local)
theorem gname_ok {i : Nat} {x : PySem.Str} {p : Pos} (nd : X.N.Nodup) (h : X.N[i]? = some x) (hs : SetB X x) : PG X (.Name x p) (gName i) := pg_name nd h hs.1 hs.2
theorem mNm_of {s : Scope} {i : Nat} {e : Expr} (h : mNm N s i e = true) : ∃ x p, e = .Name x p ∧ N[i]? = some x ∧ locB s x = true := by
  cases e with
  | Name x p => simp only [mNm, Bool.and_eq_true, decide_eq_true_eq] at h; exact ⟨x, p, rfl, h.1, h.2⟩
  | _ => simp [mNm] at h
def gNms : List Nat → TGs
  | [] => gNil
  | i :: is => gCons (gName i) (gNms is)
theorem gnms_ok (nd : X.N.Nodup) {s : Scope} (hs : ∀ x, locB s x = true → SetB X x) (hN : X.N = N) : ∀ {is : List Nat} {es : List Expr}, mNms N s is es = true →
    PGs X es (gNms is) ∧ (assignEach es X.env).length = is.length ∧ (assignEach es X.env).findIdx? (·.1) = none
  | [], [], _ => ⟨pgs_nil, rfl, rfl⟩
  | [], _ :: _, h => by simp [mNms] at h
  | _ :: _, [], h => by simp [mNms] at h
  | i :: is, e :: es, h => by
    simp only [mNms, Bool.and_eq_true] at h
    obtain ⟨x, p, rfl, h1, h2⟩ := mNm_of h.1
    obtain ⟨g1, g2, g3⟩ := gnms_ok nd hs hN (is := is) (es := es) h.2
    refine ⟨pgs_cons (gname_ok nd (by rw [hN]; exact h1) (hs x h2)) g1, ?_, ?_⟩
    · show (_ :: assignEach es X.env).length = _
      simp [g2]
    · show List.findIdx? _ ((false, _) :: assignEach es X.env) = none
      rw [List.findIdx?_cons]
      simp [g3]
def gTg (K : PySem.W.Frag) : Tg → TG
  | .nm i => gName i
  | .tp is => gTup K is.length (gNms is)
theorem gtg_ok (hc : X.calm = true) (nd : X.N.Nodup) {s : Scope} (hs : ∀ x, locB s x = true → SetB X x) (hN : X.N = N) {tg : Tg} {e : Expr} (h : mTg N s tg e = true) : PG X e (gTg X.K tg) := by
  cases tg with
  | nm i =>
    obtain ⟨x, p, rfl, h1, h2⟩ := mNm_of h
    exact gname_ok nd (by rw [hN]; exact h1) (hs x h2)
  | tp is =>
    cases e with
    | Tuple es kk p =>
      simp only [mTg, Bool.and_eq_true, decide_eq_true_eq] at h
      obtain ⟨g1, g2, g3⟩ := gnms_ok nd hs hN h.1
      exact pg_tup hc g1 g2 g3
    | _ => simp [mTg] at h
theorem mTg_tp {s : Scope} {tg : Tg} {e : Expr} (h : mTg N s tg e = true) : (isTp tg = true → ∃ elts kk tpos, e = .Tuple elts kk tpos) ∧ (tgIx tg).Nodup := by
  cases tg with
  | nm i => exact ⟨fun e => (nomatch e), by simp [tgIx]⟩
  | tp is =>
    cases e with
    | Tuple es kk p =>
      simp only [mTg, Bool.and_eq_true, decide_eq_true_eq] at h
      exact ⟨fun _ => ⟨_, _, _, rfl⟩, h.2⟩
    | _ => simp [mTg] at h
theorem sat_gnms (hc : c.cur = none) : ∀ (is : List Nat), SatGs c (gNms is) is
  | [] => sat_gs fun _ h => nomatch h
  | i :: is => sat_gcons (by unfold Cfg.at; rw [hc]) (sat_gnms hc is)
theorem sat_gtg {K : PySem.W.Frag} (hK : K = c.K) (hc : c.cur = none) : ∀ (tg : Tg), SatG c (gTg K tg) tg
  | .nm i => sat_gname (by unfold Cfg.at; rw [hc])
  | .tp is => sat_gtup hK (sat_gnms hc is)
/-! ### a comprehension's block -/
abbrev Wno : WX := fun _ _ _ _ => False
theorem COk.blk (O : COk c T N sc X W) (hh : c.hot = false) (scope : Scope) (s : Shared) (H : Hp) (C : Addr) (cl : List (PySem.Str × Addr)) (fp : List Addr) : COk c T N (relS scope sc) (X.blk s H scope (compEnvC scope cl C X.env) fp) Wno where
  N := O.N
  nd := O.nd
  sc := by
    show (compEnvC scope cl C X.env).scope = _
    rw [← O.sc]; rfl
  calm := O.calm
  K := O.K
  bi := O.bi
  tk := takes_none5
  hu := O.hu
  fn := O.fn
  mt := O.mt
  cl := O.cl
  gl := O.gl
  cls := O.cls
  fl := O.fl
  flT := O.flT
  flM := O.flM
  sub := O.sub
  own := O.own
  icl := O.icl
  clsG := O.clsG
  isO := O.isO
  isI := O.isI
  isX := O.isX
  exm := O.exm
  xc := O.xc
  cur := fun i a n dd e => by rw [(O.calm hh).2] at e; cases e
theorem blk_set (O : COk c T N sc X W) (scope : Scope) (s : Shared) (H : Hp) (C : Addr) (cl : List (PySem.Str × Addr)) (fp : List Addr) : ∀ x, locB scope x = true → SetB (X.blk s H scope (compEnvC scope cl C X.env) fp) x := fun x h => by
  have e : ∀ k, k ≠ .free → scope.names.lookup x = some k → (compEnvC scope cl C X.env).scope.names.lookup x = some k := fun k hk hx => lookup_relS_keep (sc := X.env.scope) hk hx
  unfold locB at h
  split at h
  · rename_i hx
    exact ⟨.inl (e _ (by decide) hx), .inr (e _ (by decide) hx)⟩
  · rename_i hx
    refine ⟨.inr (e _ (by decide) hx), .inl ?_⟩
    show (scope.names.lookup x == some .cell) = true
    rw [hx]; rfl
  · cases h
theorem upd_self {H : Hp} {a : Addr} {o : HO} (h : H a = some o) : upd H a o = H := by
  funext b
  by_cases e : b = a
  · subst e; rw [upd_same, h]
  · rw [upd_ne e]
theorem drop_cons {α : Type} {xs : List α} {i : Nat} (h : i < xs.length) : xs.drop i = xs[i] :: xs.drop (i + 1) := by
  rw [List.drop_eq_getElem_cons h]
theorem wipe_skip {v : Nat} {o x : Option V} : ∀ {vs : List Nat} {τ : St}, (L2.wipe (τ.set v o) vs).set v x = (L2.wipe τ vs).set v x
  | [], τ => by show (τ.set v o).set v x = τ.set v x; rw [List.set_set]
  | j :: vs, τ => by
    show ((L2.wipe (τ.set v o) vs).set j none).set v x = ((L2.wipe τ vs).set j none).set v x
    by_cases e : j = v
    · subst e; rw [List.set_set, List.set_set, wipe_skip]
    · rw [List.set_comm _ _ e, wipe_skip, List.set_comm _ _ e]
theorem wipe_wipe {σ : St} : ∀ {vs : List Nat}, L2.wipe (L2.wipe σ vs) vs = L2.wipe σ vs
  | [] => rfl
  | v :: vs => by
    show (L2.wipe ((L2.wipe σ vs).set v none) vs).set v none = (L2.wipe σ vs).set v none
    rw [wipe_skip, wipe_wipe]
theorem Sta.zstp {σ : St} {H H' : Hp} {env : Env} {M M' : Mm} {Z Z' : Addr → Prop} (st : Sta (c.z Z) σ H env M) (hz : ∀ a, Z' a → Z a ∨ H a = none) (s : Stp H M H' M') (ok : Cells (c.z Z') H' M') : Sta (c.z Z') σ H' env M' :=
  ⟨ok, st.len, fun i d e => let ⟨v, h1, h2⟩ := st.env' i d e; ⟨v, h1, (h2.zset' hz).stp s⟩, fun i a n dd e => by
    obtain ⟨h1, fs, h2, h3⟩ := st.cur i a n dd e
    refine ⟨h1, fs, h2, h3.imp id ?_⟩
    rintro ⟨x, vs, e1, e2, e3, e4, ne⟩
    exact ⟨x, vs, e1, s.keep _ _ e2 e3, s.nn _ (by rw [e2]; exact fun z => nomatch z) e3, (e4.zset (c := c.z Z) hz).view s.view, ne⟩⟩
/-- one clause, with tests or none -/
theorem lc_sat (O : COk c T N sc X W) (hh : c.hot = false) {m : Bool} {tg : Tg} {k : ItK} {ss : List SE} {cs es : SE} {wi : TI} {tt : TT} {te : TE} (hi : SatI c T W wi k ss) (ht : SatT c Wno tt (wE T cs)) (he' : SatE c Wno te (wE T es)) (nd : (tgIx tg).Nodup) :
    SatE c W (tLc wi (gTg X.K tg) tt te (tgIx tg)) (wE T (.comp m tg k ss cs es)) := fun Z σ H env M Q E kk st q he hk => by
  have hcur := (O.calm hh).2
  have hg := sat_gtg (c := c) O.K hcur tg
  have q : wEs T ss env M (fun ds M1 => compQ (fun items M' => itD k ds M' = some items) (fun env M Q => wE T cs env M Q (fun _ _ => False)) (fun env M Q => wE T es env M Q (fun _ _ => False)) tg env (itD k ds M1) M1 fun acc M2 => alL m acc M2 Q) E := q
  refine hi Z σ H env M (fun ds items M1 => cnd (items.length ≤ sizeLine) (compL (fun M' => itD k ds M' = some items) (fun env M Q => wE T cs env M Q (fun _ _ => False)) (fun env M Q => wE T es env M Q (fun _ _ => False)) tg env items [] M1 fun acc M2 => alL m acc M2 Q)) E _ st q he fun J H1 M1 ds items s1 ok1 e1 q1 its => fun D hD => ?_
  obtain ⟨hlen, q1⟩ := q1
  have st1 := st.stp s1 ok1
  have J0 := its (fun b => Z b ∨ b = D) fun a z => z.imp id fun e => by rw [e]; exact hD
  have hid : Hid (upd H1 D (.lst [])) D := .inl ⟨_, upd_same⟩
  have stD := st1.hide hD hid
  have hM1D : M1 D = none := ok1.fresh hD
  have nzD : ¬ Z D := fun z => by
    obtain ⟨o, h⟩ := (ok1.z D z).1.there
    rw [hD] at h; cases h
  refine ⟨fun i n H2 => n = items.length - i ∧ i ≤ items.length ∧ ∃ M2 vacc acc, Stp H1 M1 H2 M2 ∧ Cells (c.z fun b => Z b ∨ b = D) H2 M2 ∧ H2 D = some (.lst vacc) ∧ Reps (c.z fun b => Z b ∨ b = D) H2 M2 vacc acc ∧ acc.length ≤ i ∧
    compL (fun M' => itD k ds M' = some items) (fun env M Q => wE T cs env M Q (fun _ _ => False)) (fun env M Q => wE T es env M Q (fun _ _ => False)) tg env (items.drop i) acc M2 fun acc M2 => alL m acc M2 Q, ⟨_, rfl, Nat.zero_le _, M1, [], [], stp_new ok1 hD, stD.cells, upd_same, .nil, Nat.le_refl _, q1⟩, ?_⟩
  rintro i n H2 ⟨rfl, hle, M2, vacc, acc, s2, ok2, hD2, racc, hacc, q2⟩
  by_cases hlt : i < items.length
  · rw [drop_cons hlt] at q2
    obtain ⟨ch, q2⟩ := q2
    obtain ⟨env', eb, q2⟩ := obn_of q2
    obtain ⟨J1, _⟩ := J0 H2 M2 s2 ok2 ch
    obtain ⟨go, yl⟩ := J1 i items[i] (by rw [List.getElem?_eq_getElem hlt])
    refine .inr ⟨go, fun H' => ∃ M2 vacc acc, Stp H1 M1 H' M2 ∧ Cells (c.z fun b => Z b ∨ b = D) H' M2 ∧ H' D = some (.lst vacc) ∧ Reps (c.z fun b => Z b ∨ b = D) H' M2 vacc acc ∧ acc.length ≤ i + 1 ∧
      compL (fun M' => itD k ds M' = some items) (fun env M Q => wE T cs env M Q (fun _ _ => False)) (fun env M Q => wE T es env M Q (fun _ _ => False)) tg env (items.drop (i + 1)) acc M2 fun acc M2 => alL m acc M2 Q, fun H' w => ⟨items.length - (i + 1), by omega, rfl, hlt, w⟩, fun x H3 y => ?_⟩
    obtain ⟨s3, ok3, rx⟩ := yl x H3 y
    have stw : Sta (c.z fun b => Z b ∨ b = D) (L2.wipe σ (tgIx tg)) H3 (wipeE env (tgIx tg)) M2 := (st1.zstp (Z' := fun b => Z b ∨ b = D) (fun a z => z.imp id fun e => by rw [e]; exact hD) (s2.trans s3) ok3).wipe hcur (tgIx tg)
    refine hg _ _ H3 _ M2 x _ env' _ stw rx (bindT_wipe nd eb) fun σ' st' hw => ⟨by rw [hw]; exact wipe_wipe, ?_⟩
    refine ht _ σ' H3 env' M2 _ _ _ st' q2 Exc.none fun b H4 M4 s4 ok4 q4 => ?_
    have hM4 : M4 D = none := (ok4.z D (.inr rfl)).2
    cases b with
    | false =>
      rw [if_neg Bool.false_ne_true]
      exact ⟨M4, vacc, acc, s2.trans (s3.trans s4), ok4, s4.keep _ _ (s3.keep _ _ hD2 (ok2.z D (.inr rfl)).2) (ok3.z D (.inr rfl)).2, (racc.stp s3).stp s4, Nat.le_succ_of_le hacc, q4⟩
    | true =>
      rw [if_pos rfl]
      refine he' _ σ' H4 env' M4 _ _ _ (st'.stp s4 ok4) q4 Exc.none fun v H5 d M5 s5 ok5 r5 q5 => ?_
      have k5 : H5 D = some (.lst vacc) := s5.keep _ _ (s4.keep _ _ (s3.keep _ _ hD2 (ok2.z D (.inr rfl)).2) (ok3.z D (.inr rfl)).2) hM4
      have ra5 := ((racc.stp s3).stp s4).stp s5
      refine ⟨vacc, k5, by rw [racc.len]; exact Nat.lt_of_le_of_lt hacc (Nat.lt_of_lt_of_le hlt hlen), M5, vacc ++ [v], acc ++ [d], stp_rev ok1 hD (s2.trans (s3.trans (s4.trans s5))) fun _ _ => rfl, cells_hid ok5 (.inr rfl) (.inl ⟨_, upd_same⟩), upd_same, ?_, by simp; omega, q5⟩
      exact (ra5.append (.one r5)).view (view_hid (c := c.z fun b => Z b ∨ b = D) (.inr rfl))
  · have e : i = items.length := by omega
    subst e
    rw [List.drop_length] at q2
    obtain ⟨ch, q2⟩ := q2
    obtain ⟨_, J2⟩ := J0 H2 M2 s2 ok2 ch
    refine .inl ⟨J2 _ (Nat.le_refl _), ?_⟩
    have hM2 : M2 D = none := (ok2.z D (.inr rfl)).2
    have zl : vacc.length ≤ sizeLine := by rw [racc.len]; omega
    rw [← upd_self hD2]
    cases m with
    | true =>
      have s3 := stp_rev (o := .lst vacc) (M3 := up M2 D (.lst acc)) ok1 hD s2 fun b hb => up_ne hb
      have vw := view_rev (c := c) (H2 := H2) (Z := Z) (a := D) (o := .lst vacc) (M2 := M2) (M3 := up M2 D (.lst acc)) fun b hb => up_ne hb
      have r3 := (racc.view vw).zset (c := c.z fun b => Z b ∨ b = D) (Z := Z) fun b z => .inl (.inl z)
      exact hk _ _ _ _ (s1.trans s3) (cells_rev nzD ok2 (fun b hb => up_ne hb) fun x e => by rw [up_same] at e; cases e; exact .lst upd_same zl r3) (.ref D) (q2 D hM2)
    | false =>
      have s3 := stp_rev (o := .lst vacc) (M3 := M2) ok1 hD s2 fun b hb => rfl
      have vw := view_rev (c := c) (H2 := H2) (Z := Z) (a := D) (o := .lst vacc) (M2 := M2) (M3 := M2) fun b hb => rfl
      have r3 := (racc.view vw).zset (c := c.z fun b => Z b ∨ b = D) (Z := Z) fun b z => .inl (.inl z)
      exact hk _ _ _ _ (s1.trans s3) (cells_rev nzD ok2 (fun b hb => rfl) fun x e => by rw [hM2] at e; cases e) (.lst upd_same ⟨hM2, nzD⟩ zl r3) q2
end
end L3

set_option maxRecDepth 100000
set_option maxHeartbeats 8000000
namespace L3
open PySem L2
section
variable {X : Cx} {c : Cfg} {T : Tab} {N : List PySem.Str} {sc : Scope} {W : WX}
theorem own_ix (tg : Tg) : (ownOf N tg).map (·.2) = tgIx tg := by
  cases tg with
  | nm i => rfl
  | tp is =>
    show (is.map fun i => (N.getD i "", i)).map (·.2) = is
    rw [List.map_map]
    exact List.map_id is
theorem comp_parts (O : COk c T N sc X W) {m : Bool} {tg : Tg} {k : ItK} {ss : List SE} {cs x : SE} {elt t it : Expr} {ifs : List Expr} {scope : Scope} (hh : c.hot = false) (hi : ItE c T N sc k tg ss it) (htg : mTg N scope tg t = true)
    (hb : blkC N sc scope (ownOf N tg) = true) (hc : (ifs = [] ∧ cs = .bl true) ∨ ∃ y, ifs = [y] ∧ Snd c T N (relS scope sc) cs y) (hx : Snd c T N (relS scope sc) x elt) : ∃ wi tt te, PI X t it wi ∧ BlkOk X.N X.env.scope scope (ownOf N tg) ∧
    (∀ (s : Shared) (H : Hp) (C : Addr) (cl : List (PySem.Str × Addr)) (fp : List Addr), PG (X.blk s H scope (compEnvC scope cl C X.env) fp) t (gTg X.K tg)) ∧
    (∀ (s : Shared) (H : Hp) (C : Addr) (cl : List (PySem.Str × Addr)) (fp : List Addr), PTs (X.blk s H scope (compEnvC scope cl C X.env) fp) ifs tt) ∧
    (∀ (s : Shared) (H : Hp) (C : Addr) (cl : List (PySem.Str × Addr)) (fp : List Addr), PE (X.blk s H scope (compEnvC scope cl C X.env) fp) elt te) ∧
    SatE c W (tLc wi (gTg X.K tg) tt te ((ownOf N tg).map (·.2))) (wE T (.comp m tg k ss cs x)) := by
  obtain ⟨htp, nd⟩ := mTg_tp htg
  obtain ⟨wi, p1, p2⟩ := it_ok (tgE := t) O hi htp
  have ob : BlkOk X.N X.env.scope scope (ownOf N tg) := by rw [O.N, O.sc]; exact blkOk_by hb
  have g : ∀ (s : Shared) (H : Hp) (C : Addr) (cl : List (PySem.Str × Addr)) (fp : List Addr), PG (X.blk s H scope (compEnvC scope cl C X.env) fp) t (gTg X.K tg) := fun s H C cl fp =>
    gtg_ok (X := X.blk s H scope (compEnvC scope cl C X.env) fp) (O.calm hh).1 O.nd (blk_set O scope s H C cl fp) O.N htg
  have te : ∀ (s : Shared) (H : Hp) (C : Addr) (cl : List (PySem.Str × Addr)) (fp : List Addr), PE (X.blk s H scope (compEnvC scope cl C X.env) fp) elt (rdE c Wno (wE T x)) := fun s H C cl fp => hx.pe (O.blk hh scope s H C cl fp)
  rw [own_ix]
  rcases hc with ⟨rfl, rfl⟩ | ⟨y, rfl, hy⟩
  · have sat : SatT c Wno tYes (wE T (.bl true)) := fun Z σ H env M Q E k st q he hk => hk _ _ _ .refl st.cells q
    exact ⟨wi, _, _, p1, ob, g, (fun _ _ _ _ _ => pts_nil), te, lc_sat O hh p2 sat rdE_sat nd⟩
  · have tt : ∀ (s : Shared) (H : Hp) (C : Addr) (cl : List (PySem.Str × Addr)) (fp : List Addr), PTs (X.blk s H scope (compEnvC scope cl C X.env) fp) [y] (rdT c Wno (wE T cs)) := fun s H C cl fp => pts_one (hy.pt (O.blk hh scope s H C cl fp))
    exact ⟨wi, _, _, p1, ob, g, tt, te, lc_sat O hh p2 rdT_sat rdE_sat nd⟩
theorem snd_comp {m : Bool} {tg : Tg} {k : ItK} {ss : List SE} {cs x : SE} {elt t it : Expr} {ifs : List Expr} {scope : Scope} {pos : Pos} (hh : c.hot = false) (hi : ItE c T N sc k tg ss it) (hf : fine it = true) (htg : mTg N scope tg t = true)
    (hb : blkC N sc scope (ownOf N tg) = true) (hc : (ifs = [] ∧ cs = .bl true) ∨ ∃ y, ifs = [y] ∧ Snd c T N (relS scope sc) cs y) (hx : Snd c T N (relS scope sc) x elt) :
    Snd c T N sc (.comp m tg k ss cs x) (.ListComp elt [⟨t, it, ifs, 0⟩] scope pos) := fun X W O => by
  obtain ⟨wi, tt, te, p1, ob, g, h1, h2, sat⟩ := comp_parts (m := m) O hh hi htg hb hc hx
  exact Snd.mk O rfl (pe_lc (pos := pos) (O.calm hh).1 O.nd p1 ob g h1 h2 (noSet hf)) sat
/-! ### isinstance of the exception that is held -/
theorem kit_isXT (O : COk c T N sc X W) {n : Nm} {C : Addr} {t : Ty1} {b : Bool} (hC : c.cls n = some C) (hs : (lk T.sub n).isSome = true) (ht : bttB t = true) (ho : ownOk T [t] = true) (h : isXT T n t = some b) : PySem.W.kitOne X.K (.ref C) (tyU1 c t) = some b := by
  cases t with
  | bt x =>
    have h : some (decide (x = "ValueError")) = some b := h
    rw [← h]
    have := (O.isI n C hC).2 x (by simpa [bttB] using ht)
    rw [xcB, hs, Bool.and_true] at this
    exact this
  | own m =>
    simp only [ownOk, List.all_cons, List.all_nil, Bool.and_true, decide_eq_true_eq] at ho
    obtain ⟨C', hC'⟩ := Option.isSome_iff_exists.mp (O.own m ho)
    obtain ⟨l, hl⟩ := Option.isSome_iff_exists.mp hs
    have h : (match lk T.sub n with | some l => some (decide (m ∈ l)) | none => none) = some b := h
    rw [hl] at h
    show PySem.W.kitOne X.K (.ref C) (.ref ((c.cls m).getD 0)) = some b
    rw [hC', ← h]
    exact (O.isX n l hl C hC).2 m C' hC'
theorem snd_isx {i : Nat} {ts : List Ty1} {x : PySem.Str} {p p2 pos : Pos} {e' : Expr} {a : Addr} {n : Nm} {dd : Option Addr} (hcur : c.cur = some (i, a, n, dd)) (hN : N[i]? = some x) (hv : visB sc x = true) (hn : nmB x = true) (hg : glB sc "isinstance" = true) (ht : mTy sc false ts e' = true) :
    Snd c T N sc (.isx i false ts) (.Call (.Name "isinstance" p) [.Name x p2, e'] [] pos) := fun X W O => by
  obtain ⟨b1, b2, b3⟩ := isi_name
  obtain ⟨n1, n2, n3⟩ := nmB_of hn
  cases ho : ownOk T ts with
  | false =>
    refine snd_no O rfl fun env M Q E q => ?_
    have q : cnd (ownOk T ts = true) _ := q
    exact absurd (q.1.symm.trans ho) (by decide)
  | true =>
    have h1 := pe_var (pos := p2) (N_get O hN) (by rw [O.sc]; exact vis_of hv) n1 n2
    have ht : mTys sc ts [e'] = true := ht
    cases ts with
    | nil => simp [mTys] at ht
    | cons t ts => cases ts with
      | cons _ _ => simp [mTys] at ht
      | nil =>
        have ht1 : mTy1 sc t e' = true := by simpa [mTys] using ht
        obtain ⟨p1, f⟩ := ty_pe O ht1 ho
        have pl : (backTo pos (starEach [e'] X.env)).any (·.1) = false := by rw [star_cons f]; rfl
        have keyq : ∀ {Z σ H env M}, Sta (c.z Z) σ H env M → ∀ {pr : Nm × List (Nm × D)}, excE env i = some pr → pr.1 = n ∧ (pr.2 = [] → dd = none) := fun {Z σ H env M} st {pr} e1 => by
          obtain ⟨hσ, fs, he2, h3⟩ := st.cur i a n dd hcur
          unfold excE at e1
          rw [he2] at e1
          cases e1
          refine ⟨rfl, fun e => ?_⟩
          rcases h3 with h3 | ⟨_, _, _, _, _, _, h3⟩
          · exact h3.1
          · exact absurd e h3
        cases dd with
        | some dd =>
          refine Snd.mk (t := fun _ _ _ => False) O rfl ⟨fun _ _ _ _ _ _ h => h.elim⟩ fun Z σ H env M Q E k st q he hk => ?_
          obtain ⟨_, q⟩ := q
          obtain ⟨pr, e1, hne, q⟩ := obn_of q
          exact absurd ((keyq st e1).2 hne) (by simp)
        | none =>
        obtain ⟨X', oe, pn, C, rfl, hC, hz, hf, hs⟩ := O.cur i a n none hcur
        obtain ⟨l, hl⟩ := Option.isSome_iff_exists.mp hs
        have XC := (O.isX n l hl C hC).1
        refine Snd.mk O rfl (pe_callB (call_isE (pn := pn) XC hz hf) (gl_of O hg) (O.bi _ b3) PyProof.Rows.boot_isinstance (pa_cons h1 (pa_cons p1 pa_nil (star_cons f)) rfl) b2 b1 rfl pl) fun Z σ H env M Q E k st q he hk => ?_
        obtain ⟨_, q⟩ := q
        obtain ⟨pr, e1, hne, q⟩ := obn_of q
        obtain ⟨b, e2, q⟩ := obn_of q
        have hσ := (st.cur i a n none hcur).1
        have := (keyq st e1).1
        refine ⟨_, hσ, tyV1 c t, tyU1 c t, b, rfl, fun u hu => (tyCls c t).eq hu, ?_, hk _ _ _ _ .refl st.cells (.bl b) q⟩
        rw [this] at e2
        exact Ans.one (v := .non) (fun x hx => kit_isXT O hC hs (mTys_btt ht t List.mem_cons_self) ho hx) e2
/-! ### turned lists, lists of a range -/
theorem Reps.reverse {H : Hp} {M : Mm} : ∀ {vs : List V} {ds : List D}, Reps c H M vs ds → Reps c H M vs.reverse ds.reverse
  | _, _, .nil => .nil
  | _, _, .cons a r => by simp only [List.reverse_cons]; exact (Reps.reverse r).append (.one a)
theorem snd_rev {m : Bool} {a : SE} {l : Expr} {k : Nat} {p1 p2 p3 p : Pos} (ha : Snd c T N sc a l) : Snd c T N sc (.rev m a) (.Subscript l (.Slice none none (some (.UnaryOp .USub (.Constant (.int 1) k p1) p2)) p3) p) := fun X W O => by
  obtain ⟨⟨ta, a1, a2⟩, _⟩ := ha X W O
  refine Snd.mk O rfl (pe_revL a1) fun Z σ H env M Q E k st h he hk => ?_
  refine a2 Z σ H env M _ E _ st h he fun x H1 dx M1 s1 ok1 rx q1 => ?_
  have seq : (∀ ds, dx ≠ .tup ds) → (∀ ds, dx ≠ .ro true ds) → (obn (seqD M1 dx) fun ds => alL m ds.reverse M1 Q) → ∃ a xs, x = .ref a ∧ SqL X.K H1 a xs ∧ ∀ p, H1 p = none → k (.ref p) (upd H1 p (.lst xs.reverse)) := fun nt nr h => by
    obtain ⟨ds, e1, h⟩ := obn_of h
    have hl : ∃ a vs, x = .ref a ∧ SqL c.K H1 a vs ∧ vs.length ≤ sizeLine ∧ Reps (c.z Z) H1 M1 vs ds := by
      cases rx with
      | lst h1 n z q => cases e1; exact ⟨_, _, rfl, SqL.of h1, z, q⟩
      | roL h1 z q => cases e1; exact ⟨_, _, rfl, KL.sq h1, z, q⟩
      | roT h1 z q => exact absurd rfl (nr _)
      | tup h1 n z q => exact absurd rfl (nt _)
      | ref a =>
        cases e2 : M1 a with
        | none => simp [seqD, e2] at e1
        | some x =>
          cases x with
          | lst es =>
            simp [seqD, e2] at e1; subst e1
            cases ok1.at' a _ e2 with
            | lst h1 z q => exact ⟨a, _, rfl, SqL.of h1, z, q⟩
          | _ => simp [seqD, e2] at e1
      | _ => cases e1
    obtain ⟨a, vs, rfl, hs, hz, q⟩ := hl
    rw [O.K]
    exact ⟨a, vs, rfl, hs, al_ok ok1 q.reverse (by rw [List.length_reverse]; exact hz) h (hk.stp s1)⟩
  cases dx with
  | tup ds => exact False.elim q1
  | ro t ds => cases t with
    | true => exact False.elim q1
    | false => exact seq (by simp) (by simp) q1
  | lst ds => exact seq (by simp) (by simp) q1
  | ref a => exact seq (by simp) (by simp) q1
  | _ => exact absurd q1 (by simp [revD, obn, seqD])
theorem rng_reps {H : Hp} {M : Mm} (a : Int) (n : Nat) : Reps c H M ((List.range n).map fun i => V.int (a + (i : Nat))) (rngL a n) := by
  unfold rngL
  generalize List.range n = l
  induction l with
  | nil => exact .nil
  | cons i r ih => exact .cons (.int _) ih
theorem snd_lrng {m : Bool} {k : ItK} {ss : List SE} {it : Expr} {es : List Expr} {p pos : Pos} (hh : c.hot = false) (h : SndL c T N sc ss es) (hg : glB sc "list" = true)
    (hk : (k = .rng1 ∧ ∃ b p2 p3, it = .Call (.Name "range" p2) [b] [] p3 ∧ es = [b]) ∨ (k = .rng2 ∧ ∃ b d p2 p3, it = .Call (.Name "range" p2) [b, d] [] p3 ∧ es = [b, d])) (hr : glB sc "range" = true) :
    Snd c T N sc (.lrng m k ss) (.Call (.Name "list" p) [it] [] pos) := fun X W O => by
  have n1 : ("list" : PySem.Str) ∈ bnames ∧ ("range" : PySem.Str) ∈ bnames := by decide +kernel
  have lim : ∀ {a : Int} {n : Nat}, (rngL a n).length = n := fun {a n} => by simp [rngL]
  rcases hk with ⟨rfl, b, p2, p3, rfl, rfl⟩ | ⟨rfl, b, d, p2, p3, rfl, rfl⟩
  · cases h with
    | @cons s _ _ _ hb mb r =>
      cases r
      obtain ⟨⟨tb, b1, b2⟩, _⟩ := hb X W O
      refine Snd.mk O rfl (pe_listRg (O.calm hh).1 (gl_of O hg) (O.bi _ n1.1) (prg_1 (gl_of O hr) (O.bi _ n1.2) b1 (star_cons (mE_fine mb)))) fun Z σ H env M Q E k st q he hk => ?_
      refine b2 Z σ H env M _ E _ st q he fun x H1 dx M1 s1 ok1 rx q1 => ?_
      have q1 : obn (itD .rng1 [dx] M1) fun xs => cnd (xs.length ≤ 1000000) (alL m xs M1 Q) := q1
      obtain ⟨xs, e1, l1, q1⟩ := obn_of q1
      cases dx with
      | int n =>
        rw [rep_int rx]
        have e1 : (if n < 2 ^ 62 ∧ -(2 ^ 62) ≤ n then some (rngL 0 n.toNat) else none) = some xs := e1
        split at e1
        · rename_i hn
          cases e1
          rw [lim] at l1
          refine ⟨n, rfl, ⟨by decide, by decide, by omega, by omega, by omega⟩, ?_⟩
          refine al_ok ok1 ?_ ?_ q1 (hk.stp s1)
          · unfold rgV
            rw [Int.sub_zero]
            exact rng_reps 0 _
          · rw [rgV_length, Int.sub_zero]
            exact Nat.le_trans l1 (by decide)
        · cases e1
      | _ => cases e1
  · cases h with
    | @cons s _ _ _ hb mb r =>
      cases r with
      | @cons s' _ _ _ hd md r =>
        cases r
        obtain ⟨⟨tb, b1, b2⟩, _⟩ := hb X W O
        obtain ⟨⟨td, d1, d2⟩, _⟩ := hd X W O
        refine Snd.mk O rfl (pe_listRg (O.calm hh).1 (gl_of O hg) (O.bi _ n1.1) (prg_2 (gl_of O hr) (O.bi _ n1.2) b1 d1 (star_cons (mE_fine mb)) (star_cons (mE_fine md)) (by rw [star_cons (mE_fine md)]; rfl))) fun Z σ H env M Q E k st q he hk => ?_
        refine b2 Z σ H env M _ E _ st q he fun x H1 dx M1 s1 ok1 rx q1 => ?_
        refine d2 Z σ H1 env M1 _ E _ (st.stp s1 ok1) q1 (he.stp s1) fun y H2 dy M2 s2 ok2 ry q2 => ?_
        have q2 : obn (itD .rng2 [dx, dy] M2) fun xs => cnd (xs.length ≤ 1000000) (alL m xs M2 Q) := q2
        obtain ⟨xs, e1, l1, q2⟩ := obn_of q2
        cases dx with
        | int i =>
          cases dy with
          | int j =>
            rw [rep_int rx, rep_int ry]
            have e1 : (if (-(2 ^ 62) ≤ i ∧ i < 2 ^ 62) ∧ -(2 ^ 62) ≤ j ∧ j < 2 ^ 62 then some (rngL i (j - i).toNat) else none) = some xs := e1
            split at e1
            · rename_i hn
              cases e1
              rw [lim] at l1
              refine ⟨i, j, rfl, rfl, ⟨by omega, by omega, by omega, by omega, by omega⟩, ?_⟩
              refine al_ok ok2 (rng_reps i _) ?_ q2 (hk.stp (s1.trans s2))
              rw [rgV_length]
              exact Nat.le_trans l1 (by decide)
            · cases e1
          | _ => cases e1
        | _ => cases e1
/-! ### dicts alike, lists of the same places -/
theorem flat_one {H : Hp} {M : Mm} {v w : V} {d : D} (r : Rep c H M v d) (r' : Rep c H M w d) (h : flatD d = true) : w = v ∧ flatB v = true := by
  cases r <;> first | (simp [flatD] at h; done) | (cases r'; exact ⟨rfl, rfl⟩)
theorem same_vals {H : Hp} {M : Mm} {ls : List (Key × V)} {ls' : List (D × D)} (q : RepK c H M ls ls') : ∀ {ks : List (Key × V)} {ks' : List (D × D)}, RepK c H M ks ks' → (∀ p ∈ ks', getK ls' p.1 = some p.2 ∧ flatD p.2 = true) → ∀ p ∈ ks, valV ls p.1 = some p.2 ∧ flatB p.2 = true
  | _, _, .nil, _ => fun _ h => nomatch h
  | _, _, .cons (k := k) (v := v) (d := d) rv r, h => fun p hp => by
    rcases List.mem_cons.mp hp with rfl | hp
    · obtain ⟨h1, h2⟩ := h (keyD k, d) List.mem_cons_self
      rcases getK_K q k with ⟨_, e⟩ | ⟨w, dw, e1, e2, rw'⟩
      · rw [e] at h1; cases h1
      · rw [e2] at h1
        cases h1
        obtain ⟨e3, e4⟩ := flat_one rv rw' h2
        exact ⟨by rw [e1, e3], e4⟩
    · exact same_vals q r (fun p hp => h p (List.mem_cons_of_mem _ hp)) p hp
theorem dk_rep {H : Hp} {M : Mm} {x : V} {d : D} {kvs : List (D × D)} (ok : Cells c H M) (r : Rep c H M x d) (h : dkD M d = some kvs) : ∃ a ks, x = .ref a ∧ H a = some (.dK ks) ∧ RepK c H M ks kvs := by
  cases r with
  | ref a =>
    cases e : M a with
    | none => simp [dkD, e] at h
    | some y => cases y with
      | dct t es => cases t with
        | false =>
          simp [dkD, e] at h
          subst h
          cases ok.at' _ _ e with
          | dK h1 z q => exact ⟨a, _, rfl, h1, q⟩
        | true => simp [dkD, e] at h
      | _ => simp [dkD, e] at h
  | _ => cases h
theorem snd_cmpK {ne : Bool} {a b : SE} {l r : Expr} {p : Pos} (ha : Snd c T N sc a l) (hb : Snd c T N sc b r) (hf : fine r = true) : Snd c T N sc (.cmpK ne a b) (.Compare l [if ne = true then .NotEq else .Eq] [r] p) := fun X W O => by
  obtain ⟨⟨ta, a1, a2⟩, _⟩ := ha X W O
  obtain ⟨⟨tb, b1, b2⟩, _⟩ := hb X W O
  have hu := O.hu
  have core : ∀ {dx dy x y Z H M} {P : Prop}, Cells (c.z Z) H M → Rep (c.z Z) H M x dx → Rep (c.z Z) H M y dy → eqK dx dy M P → P ∧ ∃ a b ks ls, x = .ref a ∧ y = .ref b ∧ H a = some (.dK ks) ∧ H b = some (.dK ls) ∧ ks.length = ls.length ∧ ∀ p ∈ ks, valV ls p.1 = some p.2 ∧ flatB p.2 = true := fun {dx dy x y Z H M P} ok rx ry h => by
    obtain ⟨ks, e1, h⟩ := obn_of h
    obtain ⟨ls, e2, h1, h⟩ := obn_of h
    obtain ⟨a, ks', rfl, ha, qa⟩ := dk_rep ok rx e1
    obtain ⟨b, ls', rfl, hb, qb⟩ := dk_rep ok ry e2
    exact ⟨h, a, b, ks', ls', rfl, rfl, ha, hb, by rw [qa.len, qb.len]; exact h1.1, same_vals qb qa h1.2⟩
  cases ne with
  | true =>
    have r1 := op_ne_dictA (X := X) (by omega)
    have f : ∀ Z σ H env M (k : Bool → Hp → Prop) Q E (KK : VK), Sta (c.z Z) σ H env M → wE T (.cmpK true a b) env M Q E → Exc (c.z Z) W σ H M E → (∀ H' M', Stp H M H' M' → Cells (c.z Z) H' M' → Q (.bl false) M' → KK (.bl false) H') → ta σ H fun x H1 => tb σ H1 fun y H2 => rNeDA x y H2 KK := fun Z σ H env M _ Q E KK st h he hk => by
      refine a2 Z σ H env M _ E _ st h he fun x H1 dx M1 s1 ok1 rx g1 => ?_
      refine b2 Z σ H1 env M1 _ E _ (st.stp s1 ok1) g1 (he.stp s1) fun y H2 dy M2 s2 ok2 ry g2 => ?_
      obtain ⟨q, u1, u2, u3, u4, e1, e2, e3, e4, e5, e6⟩ := core ok2 (rx.stp s2) ry g2
      exact ⟨u1, u2, u3, u4, e1, e2, e3, e4, e5, e6, hk _ _ (s1.trans s2) ok2 q⟩
    exact ⟨⟨_, pe_cmpR r1 a1 b1 (nobe hf), fun Z σ H env M Q E k st h he hk => f Z σ H env M (fun _ _ => True) Q E _ st h he fun H' M' s ok q => hk _ _ _ _ s ok (.bl _) q⟩, _, pt_cmpR r1 a1 b1 (nobe hf), fun Z σ H env M Q E k st h he hk => f Z σ H env M (fun _ _ => True) _ E _ st h he fun H' M' s ok q => ⟨false, rfl, hk _ _ _ s ok q⟩⟩
  | false =>
    have r1 := op_eq_dictA (X := X) (by omega)
    have f : ∀ Z σ H env M (k : Bool → Hp → Prop) Q E (KK : VK), Sta (c.z Z) σ H env M → wE T (.cmpK false a b) env M Q E → Exc (c.z Z) W σ H M E → (∀ H' M', Stp H M H' M' → Cells (c.z Z) H' M' → Q (.bl true) M' → KK (.bl true) H') → ta σ H fun x H1 => tb σ H1 fun y H2 => rEqDA x y H2 KK := fun Z σ H env M _ Q E KK st h he hk => by
      refine a2 Z σ H env M _ E _ st h he fun x H1 dx M1 s1 ok1 rx g1 => ?_
      refine b2 Z σ H1 env M1 _ E _ (st.stp s1 ok1) g1 (he.stp s1) fun y H2 dy M2 s2 ok2 ry g2 => ?_
      obtain ⟨q, u1, u2, u3, u4, e1, e2, e3, e4, e5, e6⟩ := core ok2 (rx.stp s2) ry g2
      exact ⟨u1, u2, u3, u4, e1, e2, e3, e4, e5, e6, hk _ _ (s1.trans s2) ok2 q⟩
    exact ⟨⟨_, pe_cmpR r1 a1 b1 (nobe hf), fun Z σ H env M Q E k st h he hk => f Z σ H env M (fun _ _ => True) Q E _ st h he fun H' M' s ok q => hk _ _ _ _ s ok (.bl _) q⟩, _, pt_cmpR r1 a1 b1 (nobe hf), fun Z σ H env M Q E k st h he hk => f Z σ H env M (fun _ _ => True) _ E _ st h he fun H' M' s ok q => ⟨true, rfl, hk _ _ _ s ok q⟩⟩
theorem refs_vals : ∀ {xs : List V} {us ws : List Value}, Vals xs us → Vals xs ws → (∀ v ∈ xs, ∃ c, v = V.ref c) → us = ws
  | _, _, _, .nil, .nil, _ => rfl
  | _, _, _, .cons a r, .cons b q, h => by
    obtain ⟨c, rfl⟩ := h _ List.mem_cons_self
    cases a
    cases b
    rw [refs_vals r q fun v hv => h v (List.mem_cons_of_mem _ hv)]
def rSameL (b : Bool) (K : PySem.W.Frag) : R2 := fun x y H Q => ∃ a d xs, x = .ref a ∧ y = .ref d ∧ SqL K H a xs ∧ SqL K H d xs ∧ (∀ v ∈ xs, ∃ c, v = V.ref c) ∧ Q (.bl b) H
theorem op_sameNe (hu : X.A.units + 70 < cLine) : OpR X (compareOp .NotEq) (rSameL false X.K) := by
  intro pins s σ H x y v u Q I rx ry h
  obtain ⟨a, d, xs, rfl, rfl, ha, hd, hr, q⟩ := h
  cases (show v = Value.ref a from rx)
  cases (show u = Value.ref d from ry)
  obtain ⟨us, r1, p1, _⟩ := I.list ha
  obtain ⟨ws, r2, p2, _⟩ := I.list hd
  have e := refs_vals r1 r2 hr
  subst e
  have z := SeqAt.RcNeAt.lists (A := X.A) (e := fun _ => true) p1.isList p2.isList rfl (by omega) (fun j h1 h2 => SeqAt.EqAt.same _) X.prog X.w X.xe
  refine z _ ?_
  rw [show ((List.range us.toArray.size).all fun _ => true) = true from List.all_eq_true.mpr fun _ _ => rfl]
  exact ⟨.bl false, H, I, rfl, q⟩
theorem op_sameEq (hu : X.A.units + 70 < cLine) : OpR X (compareOp .Eq) (rSameL true X.K) := by
  intro pins s σ H x y v u Q I rx ry h
  obtain ⟨a, d, xs, rfl, rfl, ha, hd, hr, q⟩ := h
  cases (show v = Value.ref a from rx)
  cases (show u = Value.ref d from ry)
  obtain ⟨us, r1, p1, _⟩ := I.list ha
  obtain ⟨ws, r2, p2, _⟩ := I.list hd
  have e := refs_vals r1 r2 hr
  subst e
  have z := SeqAt.RcAt.lists (A := X.A) (e := fun _ => true) p1.isList p2.isList rfl (by omega) (fun j h1 h2 => SeqAt.EqAt.same _) X.prog X.w X.xe
  refine z _ ?_
  rw [show ((List.range us.toArray.size).all fun _ => true) = true from List.all_eq_true.mpr fun _ _ => rfl]
  exact ⟨.bl true, H, I, rfl, q⟩
theorem Reps.refs {H : Hp} {M : Mm} : ∀ {vs : List V} {ds : List D}, Reps c H M vs ds → (∀ d ∈ ds, ∃ a, d = D.ref a) → ∀ {ws : List V}, Reps c H M ws ds → ws = vs ∧ ∀ v ∈ vs, ∃ a, v = V.ref a
  | _, _, .nil, _ => fun q => by cases q; exact ⟨rfl, fun _ h => nomatch h⟩
  | _, _, .cons r q, h => fun q' => by
    cases q' with
    | cons r' q' =>
      obtain ⟨a, rfl⟩ := h _ List.mem_cons_self
      cases r
      cases r'
      obtain ⟨rfl, h2⟩ := Reps.refs q (fun d hd => h d (List.mem_cons_of_mem _ hd)) q'
      exact ⟨rfl, fun v hv => by
        rcases List.mem_cons.mp hv with rfl | hv
        · exact ⟨_, rfl⟩
        · exact h2 v hv⟩
theorem snd_cmpS {ne : Bool} {a b : SE} {l r : Expr} {p : Pos} (ha : Snd c T N sc a l) (hb : Snd c T N sc b r) (hf : fine r = true) : Snd c T N sc (.cmpS ne a b) (.Compare l [if ne = true then .NotEq else .Eq] [r] p) := fun X W O => by
  obtain ⟨⟨ta, a1, a2⟩, _⟩ := ha X W O
  obtain ⟨⟨tb, b1, b2⟩, _⟩ := hb X W O
  have hu := O.hu
  obtain ⟨rr, r1, hr⟩ : ∃ rr : R2, OpR X (compareOp (if ne = true then .NotEq else .Eq)) rr ∧ rr = rSameL (!ne) X.K := by
    cases ne with
    | true => exact ⟨_, op_sameNe hu, rfl⟩
    | false => exact ⟨_, op_sameEq hu, rfl⟩
  have f : ∀ Z σ H env M Q E (KK : VK), Sta (c.z Z) σ H env M → wE T (.cmpS ne a b) env M Q E → Exc (c.z Z) W σ H M E → (∀ H' M', Stp H M H' M' → Cells (c.z Z) H' M' → Q (.bl (!ne)) M' → KK (.bl (!ne)) H') → ta σ H fun x H1 => tb σ H1 fun y H2 => rr x y H2 KK := fun Z σ H env M Q E KK st h he hk => by
    refine a2 Z σ H env M _ E _ st h he fun x H1 dx M1 s1 ok1 rx g1 => ?_
    refine b2 Z σ H1 env M1 _ E _ (st.stp s1 ok1) g1 (he.stp s1) fun y H2 dy M2 s2 ok2 ry g2 => ?_
    obtain ⟨xs, e1, g2⟩ := obn_of g2
    obtain ⟨ys, e2, ⟨rfl, hs⟩, g2⟩ := obn_of g2
    obtain ⟨u, vs, rfl, h1, _, q1⟩ := rep_lst ok2 (rx.stp s2) e1
    obtain ⟨w, ws, rfl, h2, _, q2⟩ := rep_lst ok2 ry e2
    obtain ⟨rfl, h3⟩ := q1.refs hs q2
    rw [hr]
    exact ⟨u, w, ws, rfl, rfl, SqL.of h1, SqL.of h2, h3, hk _ _ (s1.trans s2) ok2 g2⟩
  exact ⟨⟨_, pe_cmpR r1 a1 b1 (nobe hf), fun Z σ H env M Q E k st h he hk => f Z σ H env M Q E _ st h he fun H' M' s ok q => hk _ _ _ _ s ok (.bl _) q⟩, _, pt_cmpR r1 a1 b1 (nobe hf), fun Z σ H env M Q E k st h he hk => f Z σ H env M _ E _ st h he fun H' M' s ok q => ⟨!ne, rfl, hk _ _ _ s ok q⟩⟩
/-! ### each expression -/
mutual
/-- what may stand in a suite of an except; the exception is asked for where it is held -/
def okE (hot : Bool) (cur : Option Nat) : SE → Bool
  | .non => true
  | .bl _ => true
  | .int _ => true
  | .str _ => true
  | .var _ => true
  | .gl _ => true
  | .bin _ a b => okE hot cur a && okE hot cur b
  | .cat a b => okE hot cur a && okE hot cur b
  | .neg a => okE hot cur a
  | .not a => okE hot cur a
  | .bop _ es => okEs hot cur es
  | .cmp _ a b => okE hot cur a && okE hot cur b
  | .chain _ _ a b c => okE hot cur a && okE hot cur b && okE hot cur c
  | .ix a i => okE hot cur a && okE hot cur i
  | .sl a lo hi => okE hot cur a && okE hot cur lo && okE hot cur hi
  | .rev _ a => okE hot cur a
  | .lrng _ _ es => !hot && okEs hot cur es
  | .cmpK _ a b => okE hot cur a && okE hot cur b
  | .cmpS _ a b => okE hot cur a && okE hot cur b
  | .fld a _ => okE hot cur a
  | .lst _ es => okEs hot cur es
  | .tup es => okEs hot cur es
  | .dnew _ _ => true
  | .dct _ _ vs => okEs hot cur vs
  | .comp _ _ _ es c e => !hot && okEs hot cur es && okE hot cur c && okE hot cur e
  | .call _ _ es => !hot && okEs hot cur es
  | .mk _ _ es => !hot && okEs hot cur es
  | .meth _ o _ es => !hot && okE hot cur o && okEs hot cur es
  | .bi _ _ es => !hot && okEs hot cur es
  | .bm _ o _ es => okE hot cur o && okEs hot cur es
  | .isi e _ _ => okE hot cur e
  | .isx i tp _ => decide (cur = some i) && !tp
  | .fldx _ _ => false
def okEs (hot : Bool) (cur : Option Nat) : List SE → Bool
  | [] => true
  | e :: r => okE hot cur e && okEs hot cur r
end
def Cfg.cu (c : Cfg) : Option Nat := c.cur.map (·.1)
theorem cu_of {i : Nat} (h : c.cu = some i) : ∃ a n dd, c.cur = some (i, a, n, dd) := by
  unfold Cfg.cu at h
  cases e : c.cur with
  | none => rw [e] at h; cases h
  | some p =>
    obtain ⟨j, a, n, dd⟩ := p
    rw [e] at h
    cases h
    exact ⟨a, n, dd, rfl⟩
theorem SndL.ite {tg : Tg} {k : ItK} {ss : List SE} {it : Expr} {as : List Expr} (h : itArgs k tg sc it = some as) (hs : SndL c T N sc ss as) : ItE c T N sc k tg ss it ∧ (k ≠ .seq → fine it = true) := by
  unfold itArgs at h
  split at h
  · cases h
    cases hs with
    | cons a m r => cases r; exact ⟨.seq a m, fun e => absurd rfl e⟩
  · split at h
    · split at h
      · rename_i hg; cases h
        simp only [Bool.and_eq_true, decide_eq_true_eq] at hg
        obtain ⟨rfl, hg⟩ := hg
        cases hs with
        | cons a m r => cases r; exact ⟨.rng1 (.cons a m .nil) hg, fun _ => rfl⟩
      · cases h
    · cases h
  · split at h
    · split at h
      · rename_i hg; cases h
        simp only [Bool.and_eq_true, decide_eq_true_eq] at hg
        obtain ⟨rfl, hg⟩ := hg
        cases hs with
        | cons a m r => cases r with
          | cons a' m' r => cases r; exact ⟨.rng2 (.cons a m (.cons a' m' .nil)) hg, fun _ => rfl⟩
      · cases h
    · cases h
  · split at h
    · split at h
      · rename_i hg; cases h
        simp only [Bool.and_eq_true, decide_eq_true_eq] at hg
        obtain ⟨⟨rfl, hg⟩, ht⟩ := hg
        cases hs with
        | cons a m r => cases r; exact ⟨.enum (.cons a m .nil) hg ht, fun _ => rfl⟩
      · cases h
    · cases h
  · split at h
    · split at h
      · rename_i hg; cases h
        simp only [Bool.and_eq_true, decide_eq_true_eq] at hg
        obtain ⟨⟨rfl, hg⟩, ht⟩ := hg
        cases hs with
        | cons a m r => cases r with
          | cons a' m' r => cases r; exact ⟨.zip (.cons a m (.cons a' m' .nil)) hg ht, fun _ => rfl⟩
      · cases h
    · cases h
  · split at h
    · split at h
      · rename_i hg; cases h
        simp only [Bool.and_eq_true, decide_eq_true_eq] at hg
        obtain ⟨⟨rfl, hg⟩, ht⟩ := hg
        cases hs with
        | cons a m r => cases r with
          | cons a' m' r => cases r; exact ⟨.zipM (.cons a m (.cons a' m' .nil)) hg ht, fun _ => rfl⟩
      · cases h
    · cases h
  · cases h
theorem SndL.it_fine {k : ItK} {tg : Tg} {ss : List SE} {it : Expr} (h : ItE c T N sc k tg ss it) : fine it = true := by
  cases h with
  | seq _ m => exact mE_fine m
  | _ => rfl
end
end L3

set_option maxRecDepth 100000
set_option maxHeartbeats 8000000
namespace L3
open PySem L2
theorem nm_of {x : PySem.Str} {n : Nm} (h : decide (x = n.s) = true) : x = n.s := of_decide_eq_true h
theorem SndL.len {c : Cfg} {T : Tab} {N : List PySem.Str} {sc : Scope} : ∀ {ss : List SE} {es : List Expr}, SndL c T N sc ss es → ss.length = es.length
  | _, _, .nil => rfl
  | _, _, .cons _ _ r => by simp [r.len]
theorem isTru_of {s : SE} (h : isTru s = true) : s = .bl true := by
  unfold isTru at h
  split at h
  · rfl
  · cases h
mutual
theorem sndE {c : Cfg} {T : Tab} {N : List PySem.Str} : ∀ (s : SE) (sc : Scope) (e : Expr), mE N s sc e = true → okE c.hot c.cu s = true → Snd c T N sc s e
  | .non, sc, e, h, ok => by
    unfold mE at h; split at h
    · exact snd_non
    · cases h
  | .bl b, sc, e, h, ok => by
    unfold mE at h; split at h
    · rw [of_decide_eq_true h]; exact snd_bl
    · cases h
  | .int b, sc, e, h, ok => by
    unfold mE at h; split at h
    · rw [of_decide_eq_true h]; exact snd_int
    · cases h
  | .str b, sc, e, h, ok => by
    unfold mE at h; split at h
    · rw [of_decide_eq_true h]; exact snd_str
    · cases h
  | .var i, sc, e, h, ok => by
    unfold mE at h; split at h
    · simp only [Bool.and_eq_true, decide_eq_true_eq] at h
      exact snd_var h.1.1 h.1.2 h.2
    · cases h
  | .gl n, sc, e, h, ok => by
    unfold mE at h; split at h
    · simp only [Bool.and_eq_true, decide_eq_true_eq] at h
      obtain ⟨⟨rfl, h1⟩, h2⟩ := h
      exact snd_gl h1 h2
    · cases h
  | .bin op a b, sc, e, h, ok => by
    unfold mE at h; split at h
    · simp only [Bool.and_eq_true, decide_eq_true_eq] at h
      simp only [okE, Bool.and_eq_true] at ok
      obtain ⟨⟨rfl, h1⟩, h2⟩ := h
      exact snd_bin (sndE a _ _ h1 ok.1) (sndE b _ _ h2 ok.2)
    · cases h
  | .cat a b, sc, e, h, ok => by
    unfold mE at h; split at h
    · simp only [Bool.and_eq_true, decide_eq_true_eq] at h
      simp only [okE, Bool.and_eq_true] at ok
      obtain ⟨⟨rfl, h1⟩, h2⟩ := h
      exact snd_cat (sndE a _ _ h1 ok.1) (sndE b _ _ h2 ok.2)
    · cases h
  | .neg a, sc, e, h, ok => by
    unfold mE at h; split at h
    · exact snd_neg (sndE a _ _ h ok)
    · cases h
  | .not a, sc, e, h, ok => by
    unfold mE at h; split at h
    · exact snd_not (sndE a _ _ h ok)
    · cases h
  | .bop k es, sc, e, h, ok => by
    unfold mE at h; split at h
    · simp only [Bool.and_eq_true, decide_eq_true_eq] at h
      obtain ⟨rfl, h1⟩ := h
      exact snd_bop (sndEs es _ _ h1 ok)
    · cases h
  | .cmp op a b, sc, e, h, ok => by
    unfold mE at h; split at h
    · simp only [Bool.and_eq_true, decide_eq_true_eq] at h
      simp only [okE, Bool.and_eq_true] at ok
      obtain ⟨⟨rfl, h1⟩, h2⟩ := h
      exact snd_cmp (sndE a _ _ h1 ok.1) (sndE b _ _ h2 ok.2) (mE_fine h2)
    · cases h
  | .chain o1 o2 a b d, sc, e, h, ok => by
    unfold mE at h; split at h
    · simp only [Bool.and_eq_true, decide_eq_true_eq] at h
      simp only [okE, Bool.and_eq_true] at ok
      obtain ⟨⟨⟨⟨rfl, rfl⟩, h1⟩, h2⟩, h3⟩ := h
      exact snd_chain (sndE a _ _ h1 ok.1.1) (sndE b _ _ h2 ok.1.2) (sndE d _ _ h3 ok.2) (mE_fine h3)
    · cases h
  | .ix a i, sc, e, h, ok => by
    unfold mE at h; split at h
    · simp only [Bool.and_eq_true, decide_eq_true_eq] at h
      simp only [okE, Bool.and_eq_true] at ok
      exact snd_ix (sndE a _ _ h.1 ok.1) (sndE i _ _ h.2 ok.2) (mE_fine h.2)
    · cases h
  | .sl a lo hi, sc, e, h, ok => by
    unfold mE at h; split at h
    · simp only [Bool.and_eq_true] at h
      simp only [okE, Bool.and_eq_true] at ok
      obtain ⟨⟨h1, h2⟩, h3⟩ := h
      have g : ∀ {s : SE} {o : Option Expr}, (match o with | none => isNon s | some l => !isNon s && mE N s sc l) = true → (∀ e, mE N s sc e = true → Snd c T N sc s e) → SndO c T N sc s o := fun {s o} h f => by
        cases o with
        | none =>
          refine .inl ⟨rfl, ?_⟩
          cases s <;> first | rfl | cases h
        | some e' =>
          simp only [Bool.and_eq_true, Bool.not_eq_true'] at h
          exact .inr ⟨e', rfl, h.1, f e' h.2⟩
      exact snd_sl (sndE a _ _ h1 ok.1.1) (g h2 fun e he => sndE lo _ _ he ok.1.2) (g h3 fun e he => sndE hi _ _ he ok.2)
    · cases h
  | .rev m a, sc, e, h, ok => by
    unfold mE at h; split at h
    · exact snd_rev (sndE a _ _ h ok)
    · cases h
  | .lrng m k es, sc, e, h, ok => by
    unfold mE at h; split at h
    · simp only [Bool.and_eq_true, decide_eq_true_eq] at h
      simp only [okE, Bool.and_eq_true, Bool.not_eq_true'] at ok
      obtain ⟨⟨rfl, h1⟩, h2⟩ := h
      split at h2
      · split at h2
        · simp only [Bool.and_eq_true, decide_eq_true_eq] at h2
          obtain ⟨⟨rfl, h3⟩, h4⟩ := h2
          exact snd_lrng ok.1 (sndEs es _ _ h4 ok.2) h1 (.inl ⟨rfl, _, _, _, rfl, rfl⟩) h3
        · cases h2
      · split at h2
        · simp only [Bool.and_eq_true, decide_eq_true_eq] at h2
          obtain ⟨⟨rfl, h3⟩, h4⟩ := h2
          exact snd_lrng ok.1 (sndEs es _ _ h4 ok.2) h1 (.inr ⟨rfl, _, _, _, _, rfl, rfl⟩) h3
        · cases h2
      · cases h2
    · cases h
  | .cmpK ne a b, sc, e, h, ok => by
    unfold mE at h; split at h
    · simp only [Bool.and_eq_true, decide_eq_true_eq] at h
      simp only [okE, Bool.and_eq_true] at ok
      obtain ⟨⟨rfl, h1⟩, h2⟩ := h
      exact snd_cmpK (sndE a _ _ h1 ok.1) (sndE b _ _ h2 ok.2) (mE_fine h2)
    · cases h
  | .cmpS ne a b, sc, e, h, ok => by
    unfold mE at h; split at h
    · simp only [Bool.and_eq_true, decide_eq_true_eq] at h
      simp only [okE, Bool.and_eq_true] at ok
      obtain ⟨⟨rfl, h1⟩, h2⟩ := h
      exact snd_cmpS (sndE a _ _ h1 ok.1) (sndE b _ _ h2 ok.2) (mE_fine h2)
    · cases h
  | .fld a f, sc, e, h, ok => by
    unfold mE at h; split at h
    · simp only [Bool.and_eq_true, decide_eq_true_eq] at h
      obtain ⟨⟨rfl, h1⟩, h2⟩ := h
      exact snd_fld (sndE a _ _ h2 ok) h1
    · cases h
  | .lst m es, sc, e, h, ok => by
    unfold mE at h; split at h
    · exact snd_lst (sndEs es _ _ h ok)
    · cases h
  | .tup es, sc, e, h, ok => by
    unfold mE at h; split at h
    · exact snd_tup (sndEs es _ _ h ok)
    · cases h
  | .dnew m t, sc, e, h, ok => by
    unfold mE at h; split at h
    · exact snd_dnew
    · cases h
  | .dct m ks vs, sc, e, h, ok => by
    unfold mE at h; split at h
    · simp only [Bool.and_eq_true, decide_eq_true_eq] at h
      obtain ⟨⟨⟨⟨⟨h1, h2⟩, h3⟩, h4⟩, h5⟩, h6⟩ := h
      exact snd_dct (sndEs vs _ _ h6 ok) h1 h2 h3 h4 h5
    · cases h
  | .comp m tg k es d x, sc, e, h, ok => by
    unfold mE at h; split at h
    · rename_i elt t it ifs a scope pos
      simp only [Bool.and_eq_true, decide_eq_true_eq] at h
      simp only [okE, Bool.and_eq_true, Bool.not_eq_true'] at ok
      obtain ⟨⟨⟨⟨⟨rfl, h2⟩, h3⟩, h4⟩, h5⟩, h6⟩ := h
      have hi : ItE c T N sc k tg es it := by
        split at h4
        · rename_i as has
          exact (SndL.ite has (sndEs es _ _ h4 ok.1.1.2)).1
        · cases h4
      refine snd_comp ok.1.1.1 hi (SndL.it_fine hi) h2 h3 ?_ (sndE x _ _ h6 ok.2)
      split at h5
      · exact .inl ⟨rfl, isTru_of h5⟩
      · exact .inr ⟨_, rfl, sndE d _ _ h5 ok.1.2⟩
      · cases h5
    · cases h
  | .call m f es, sc, e, h, ok => by
    unfold mE at h; split at h
    · simp only [Bool.and_eq_true, decide_eq_true_eq] at h
      simp only [okE, Bool.and_eq_true, Bool.not_eq_true'] at ok
      obtain ⟨⟨⟨rfl, h1⟩, h2⟩, h3⟩ := h
      exact snd_call ok.1 (sndEs es _ _ h3 ok.2) h1 h2
    · cases h
  | .mk m f es, sc, e, h, ok => by
    unfold mE at h; split at h
    · simp only [Bool.and_eq_true, decide_eq_true_eq] at h
      simp only [okE, Bool.and_eq_true, Bool.not_eq_true'] at ok
      obtain ⟨⟨⟨rfl, h1⟩, h2⟩, h3⟩ := h
      exact snd_mk ok.1 (sndEs es _ _ h3 ok.2) h1 h2
    · cases h
  | .meth m o f es, sc, e, h, ok => by
    unfold mE at h; split at h
    · simp only [Bool.and_eq_true, decide_eq_true_eq] at h
      simp only [okE, Bool.and_eq_true, Bool.not_eq_true'] at ok
      obtain ⟨⟨⟨⟨⟨rfl, h1⟩, h2⟩, h3⟩, h4⟩, h5⟩ := h
      exact snd_meth ok.1.1 (sndE o _ _ h4 ok.1.2) (sndEs es _ _ h5 ok.2) h1 h2 h3
    · cases h
  | .bi m f es, sc, e, h, ok => by
    unfold mE at h; split at h
    · simp only [Bool.and_eq_true, decide_eq_true_eq] at h
      simp only [okE, Bool.and_eq_true, Bool.not_eq_true'] at ok
      obtain ⟨⟨⟨rfl, h1⟩, h2⟩, h3⟩ := h
      exact snd_bi ok.1 (sndEs es _ _ h3 ok.2) h1
    · cases h
  | .bm m o f es, sc, e, h, ok => by
    unfold mE at h; split at h
    · simp only [Bool.and_eq_true, decide_eq_true_eq] at h
      simp only [okE, Bool.and_eq_true] at ok
      obtain ⟨⟨⟨⟨⟨⟨h0, rfl⟩, h1⟩, h2⟩, h3⟩, h4⟩, h5⟩ := h
      exact snd_bm (sndE o _ _ h4 ok.1) (sndEs es _ _ h5 ok.2) h0 h1 h2 h3
    · cases h
  | .isi x tp ts, sc, e, h, ok => by
    unfold mE at h; split at h
    · simp only [Bool.and_eq_true, decide_eq_true_eq] at h
      obtain ⟨⟨⟨rfl, h1⟩, h2⟩, h3⟩ := h
      exact snd_isi (sndE x _ _ h2 ok) h2 h1 h3
    · cases h
  | .isx i tp ts, sc, e, h, ok => by
    unfold mE at h; split at h
    · simp only [Bool.and_eq_true, decide_eq_true_eq] at h
      simp only [okE, Bool.and_eq_true, decide_eq_true_eq, Bool.not_eq_true'] at ok
      obtain ⟨⟨⟨⟨⟨rfl, h1⟩, h2⟩, h3⟩, h4⟩, h5⟩ := h
      obtain ⟨ok1, rfl⟩ := ok
      obtain ⟨a, n, dd, hc⟩ := cu_of ok1
      exact snd_isx hc h2 h3 h4 h1 h5
    · cases h
  | .fldx i f, sc, e, h, ok => by simp [okE] at ok
theorem sndEs {c : Cfg} {T : Tab} {N : List PySem.Str} : ∀ (ss : List SE) (sc : Scope) (es : List Expr), mEs N ss sc es = true → okEs c.hot c.cu ss = true → SndL c T N sc ss es
  | [], sc, es, h, ok => by
    cases es with
    | nil => exact .nil
    | cons _ _ => simp [mEs] at h
  | s :: ss, sc, es, h, ok => by
    cases es with
    | nil => simp [mEs] at h
    | cons e es =>
      simp only [mEs, Bool.and_eq_true] at h
      simp only [okEs, Bool.and_eq_true] at ok
      exact .cons (sndE s _ _ h.1 ok.1) h.1 (sndEs ss _ _ h.2 ok.2)
end
end L3

set_option maxRecDepth 100000
set_option maxHeartbeats 8000000
namespace L3
open PySem L2
/-! ### the shadow of statements -/
def compB : Expr → Bool
  | .ListComp _ _ _ _ => true
  | .SetComp _ _ _ _ => true
  | .DictComp _ _ _ _ _ => true
  | _ => false
theorem sw_no {e : Expr} {t : Option Expr} {l : Nat} {env : PySem.Env} (h : compB e = false) : swapsWith e t l env = pure false := by cases e <;> first | rfl | cases h
def tupB : Expr → Bool
  | .Tuple _ _ _ => true
  | _ => false
theorem swp_no {es : List Expr} {k : Nat} {p : Pos} {e : Expr} {env : PySem.Env} (h : tupB e = false) : swappedStores [.Tuple es k p] e env = pure none := by cases e <;> first | rfl | cases h
def swT (sc : Scope) (y : PySem.Str) (py : Pos) (v : Expr) : Bool := match v with
  | .ListComp _ _ scope pos => decide (sc.names.lookup y = some .local) && (py.line == pos.line) && !(scope.names.any fun (n, k) => n == y && (k == .local || k == .cell))
  | _ => false
def swF (sc : Scope) (y : PySem.Str) (py : Pos) (v : Expr) : Bool := match v with
  | .ListComp _ _ scope pos => !((sc.names.lookup y == some .local) && (py.line == pos.line) && !(scope.names.any fun (n, k) => n == y && (k == .local || k == .cell)))
  | _ => false
theorem swF_no {elt : Expr} {gs : List Comprehension} {scope : Scope} {pos py : Pos} {y : PySem.Str} {l : Nat} {env : PySem.Env} (h : swF env.scope y py (.ListComp elt gs scope pos) = true) : swapsWith (.ListComp elt gs scope pos) (some (.Name y py)) l env = pure false := by
  have e : (env.blockKind == .function && env.kindOf y == some .local && (py.line == pos.line) && !(scope.names.any fun (n, k) => n == y && (k == .local || k == .cell))) = false := by
    have h : (!((env.kindOf y == some .local) && (py.line == pos.line) && !(scope.names.any fun (n, k) => n == y && (k == .local || k == .cell)))) = true := h
    rw [Bool.not_eq_true'] at h
    rw [Bool.and_assoc, Bool.and_assoc, ← Bool.and_assoc (env.kindOf y == some .local), h, Bool.and_false]
  exact congrArg pure e
def hdB (N : List PySem.Str) (sc : Scope) (n : Option Nat) (m : Option PySem.Str) : Bool := match n with
  | none => m.isNone
  | some i => match m with
    | some x => decide (N[i]? = some x) && decide (sc.names.lookup x = some .local)
    | none => false
def strE : List SE → Bool
  | [.str _] => true
  | _ => false
mutual
def mS (N : List PySem.Str) (sc : Scope) : SS → Stmt → Bool
  | .asg i e, s => (match s with
    | .Assign [.Name x py] v _ => decide (N[i]? = some x) && locB sc x && mE N e sc v && (!compB v || swT sc x py v || swF sc x py v)
    | _ => false)
  | .asgT is e, s => (match s with
    | .Assign [.Tuple es _ _] v _ => mNms N sc is es && !tupB v && mE N e sc v
    | _ => false)
  | .asgL is e, s => (match s with
    | .Assign [.Tuple es _ _] v _ => mNms N sc is es && !tupB v && mE N e sc v
    | _ => false)
  | .par _ _, _ => false
  | .asgF o f e, s => (match s with
    | .Assign [.Attribute ov x _] v _ => decide (x = f.s) && mE N o sc ov && mE N e sc v
    | _ => false)
  | .asgI o i e, s => (match s with
    | .Assign [.Subscript ov iv _] v _ => mE N o sc ov && mE N i sc iv && mE N e sc v
    | _ => false)
  | .aug i op e, s => (match s with
    | .AugAssign (.Name x _) op' v _ => decide (N[i]? = some x) && locB sc x && decide (op' = op) && mE N e sc v
    | _ => false)
  | .augF _ _ _ _, _ => false
  | .augI _ _ _ _, _ => false
  | .exp e, s => (match s with
    | .Expr v _ => !compB v && mE N e sc v
    | _ => false)
  | .ret e, s => (match s with
    | .Return (some v) _ => mE N e sc v
    | _ => false)
  | .retN, s => (match s with
    | .Return none _ => true
    | _ => false)
  | .ifs c a b, s => (match s with
    | .If cv av bv _ => mE N c sc cv && mSs N sc a av && mSs N sc b bv
    | _ => false)
  | .whl c b, s => (match s with
    | .While cv bv [] _ => mE N c sc cv && mSs N sc b bv
    | _ => false)
  | .fors tg k es b, s => (match s with
    | .For t it bv [] _ => mTg N sc tg t && (match itArgs k tg sc it with
      | some as => mEs N es sc as
      | none => false) && mSs N sc b bv
    | _ => false)
  | .raise c es, s => (match s with
    | .Raise (some (.Call (.Name x _) as [] _)) none _ => decide (x = c.s) && glB sc x && nmB x && strE es && mEs N es sc as
    | _ => false)
  | .tryx b c n h, s => (match s with
    | .Try bv [.ExceptHandler (some (.Name x _)) m (h0 :: hs) _] [] [] _ => decide (x = c.s) && glB sc x && nmB x && hdB N sc n m && mSs N sc b bv && mSs N sc h (h0 :: hs)
    | _ => false)
  | .pass, s => (match s with
    | .Pass _ => true
    | _ => false)
  | .brk, s => (match s with
    | .Break _ => true
    | _ => false)
  | .cont, s => (match s with
    | .Continue _ => true
    | _ => false)
  | .frz _, _ => false
def mSs (N : List PySem.Str) (sc : Scope) : List SS → List Stmt → Bool
  | [], ss => (match ss with
    | [] => true
    | _ => false)
  | s :: r, ss => (match ss with
    | st :: sts => mS N sc s st && mSs N sc r sts
    | _ => false)
end
mutual
def okS (hot : Bool) (cur : Option Nat) : SS → Bool
  | .asg i e => decide (cur ≠ some i) && okE hot cur e
  | .asgT _ e => !hot && okE hot cur e
  | .asgL _ e => !hot && okE hot cur e
  | .par _ _ => false
  | .asgF o _ e => !hot && okE hot cur o && okE hot cur e
  | .asgI o i e => !hot && okE hot cur o && okE hot cur i && okE hot cur e
  | .aug i _ e => decide (cur ≠ some i) && okE hot cur e
  | .augF _ _ _ _ => false
  | .augI _ _ _ _ => false
  | .exp e => okE hot cur e
  | .ret e => okE hot cur e
  | .retN => true
  | .ifs c a b => okE hot cur c && okSs hot cur a && okSs hot cur b
  | .whl c b => !hot && okE hot cur c && okSs hot cur b
  | .fors _ _ es b => !hot && okEs hot cur es && okSs hot cur b
  | .raise _ es => !hot
  | .tryx b _ n h => !hot && okSs hot cur b && okSs true n h
  | .pass => true
  | .brk => true
  | .cont => true
  | .frz _ => false
def okSs (hot : Bool) (cur : Option Nat) : List SS → Bool
  | [] => true
  | s :: r => okS hot cur s && okSs hot cur r
end
/-! ### what a statement is read as -/
structure SOk (c : Cfg) (T : Tab) (N : List PySem.Str) (sc : Scope) (X : Cx) (W : WX) : Prop where
  co : COk c T N sc X W
  set : ∀ x, locB sc x = true → SetB X x
  kind : sc.kind = .function
  own : c.hot = false → X.stack = X.env :: X.outer ∧ X.env.frame = some X.env.locals ∧ PassesOwn (model X.prog X.w) X.A X.env X.xe
structure EndsOk (c : Cfg) (W : WX) (H : Hp) (M : Mm) (K : KD) (D : Ends) : Prop where
  nx : ∀ σ' H' env' M', Stp H M H' M' → Sta c σ' H' env' M' → K.nx env' M' → D.nx σ' H'
  rt : ∀ v H' d M', Stp H M H' M' → Cells c H' M' → Rep c H' M' v d → K.rt d M' → D.rt v H'
  bk : ∀ σ' H' env' M', Stp H M H' M' → Sta c σ' H' env' M' → K.bk env' M' → D.bk σ' H'
  ct : ∀ σ' H' env' M', Stp H M H' M' → Sta c σ' H' env' M' → K.ct env' M' → D.ct σ' H'
  ex : ∀ cls d σ' H' x env' M', Stp H M H' M' → Sta c σ' H' env' M' → XRep c H' M' cls d x → K.ex x env' M' → W cls d σ' H'
def rdS (c : Cfg) (W : WX) (w : KD → Env → Mm → Prop) : TS := fun D σ H => ∃ Z env M K, Sta (c.z Z) σ H env M ∧ w K env M ∧ EndsOk (c.z Z) W H M K D
def SndS (c : Cfg) (T : Tab) (N : List PySem.Str) (sc : Scope) (s : SS) (st : Stmt) : Prop := ∀ X W, SOk c T N sc X W → PS X st (rdS c W (wS T s))
def SndSs (c : Cfg) (T : Tab) (N : List PySem.Str) (sc : Scope) (ss : List SS) (sts : List Stmt) : Prop := ∀ X W, SOk c T N sc X W → PSs X sts (rdS c W (wSs T ss))
section
variable {X : Cx} {c : Cfg} {T : Tab} {N : List PySem.Str} {sc : Scope} {W : WX}
theorem ps_weak {st : Stmt} {t t' : TS} (h : PS X st t) (hw : ∀ D σ H, t' D σ H → t D σ H) : PS X st t' := ⟨fun pins s σ H D I q => h.run pins s σ H D I (hw D σ H q)⟩
theorem pss_weak {st : List Stmt} {t t' : TS} (h : PSs X st t) (hw : ∀ D σ H, t' D σ H → t D σ H) : PSs X st t' := ⟨fun pins s σ H D I q => h.run pins s σ H D I (hw D σ H q)⟩
theorem EndsOk.stp {H H' : Hp} {M M' : Mm} {K : KD} {D : Ends} (e : EndsOk c W H M K D) (s : Stp H M H' M') : EndsOk c W H' M' K D :=
  ⟨fun _ _ _ _ s2 => e.nx _ _ _ _ (s.trans s2), fun _ _ _ _ s2 => e.rt _ _ _ _ (s.trans s2), fun _ _ _ _ s2 => e.bk _ _ _ _ (s.trans s2), fun _ _ _ _ s2 => e.ct _ _ _ _ (s.trans s2), fun _ _ _ _ _ _ _ s2 => e.ex _ _ _ _ _ _ _ (s.trans s2)⟩
theorem EndsOk.exc {σ : St} {H : Hp} {env : Env} {M : Mm} {K : KD} {D : Ends} (e : EndsOk c W H M K D) (st : Sta c σ H env M) : Exc c W σ H M (fun x M' => K.ex x env M') :=
  fun cls d H' x M' s ok xr q => e.ex cls d σ H' x env M' s (st.stp s ok) xr q
theorem at_of {i : Nat} (h : c.cu ≠ some i) (Z : Addr → Prop) : (c.z Z).at i = false := by
  unfold Cfg.at
  show (match c.cur with | some (j, _) => decide (j = i) | none => false) = false
  unfold Cfg.cu at h
  cases e : c.cur with
  | none => rfl
  | some p =>
    rw [e] at h
    have : p.1 ≠ i := fun q => h (by simp [q])
    simpa using this
/-! ### single statements -/
theorem snds_asg {i : Nat} {e : SE} {v : Expr} {x : PySem.Str} {py pos : Pos} (h : Snd c T N sc e v) (hN : N[i]? = some x) (hl : locB sc x = true) (hi : c.cu ≠ some i) (hc : compB v = false ∨ swF sc x py v = true) : SndS c T N sc (.asg i e) (.Assign [.Name x py] v pos) := fun X W O => by
  obtain ⟨⟨t, h1, h2⟩, _⟩ := h X W O.co
  have hs : swapsWith v (some (.Name x py)) pos.line X.env = pure false := by
    rcases hc with hc | hc
    · exact sw_no hc
    · rw [← O.co.sc] at hc
      cases v with
      | ListComp _ _ _ _ => exact swF_no hc
      | _ => exact nomatch hc
  refine ps_weak (ps_set O.co.nd (N_get O.co hN) (O.set x hl).1 h1 hs (O.set x hl).2) fun D σ H ⟨Z, env, M, K, st, w, en⟩ => ?_
  refine h2 Z σ H env M _ _ _ st w (en.exc st) fun v H1 d M1 s1 ok1 r1 q1 => ?_
  exact en.nx _ _ _ _ s1 ((st.stp s1 ok1).set r1 i (at_of hi Z)) q1
theorem snds_asgT {is : List Nat} {e : SE} {v : Expr} {es : List Expr} {k : Nat} {p pos : Pos} (hh : c.hot = false) (h : Snd c T N sc e v) (hN : mNms N sc is es = true) (ht : tupB v = false) : SndS c T N sc (.asgT is e) (.Assign [.Tuple es k p] v pos) := fun X W O => by
  obtain ⟨⟨t, h1, h2⟩, _⟩ := h X W O.co
  obtain ⟨g1, g2, g3⟩ := gnms_ok O.co.nd O.set O.co.N hN
  have hcur := (O.co.calm hh).2
  have hs : swapsWithSole [.Tuple es k p] v pos.line X.env = pure false := by
    show swapsWith v (some (.Tuple es k p)) pos.line X.env = pure false
    cases v <;> rfl
  refine ps_weak (ps_asg h1 (pg_tup (O.co.calm hh).1 g1 g2 g3) hs (swp_no ht)) fun D σ H ⟨Z, env, M, K, st, w, en⟩ => ?_
  refine h2 Z σ H env M _ _ _ st w (en.exc st) fun v H1 d M1 s1 ok1 r1 q1 => ?_
  obtain ⟨ds, e1, q1⟩ := obn_of q1
  obtain ⟨env', e2, q1⟩ := obn_of q1
  have eb : bindT (.tp is) d M1 env = some env' := by
    unfold tupD at e1
    cases d with
    | tup ds' => cases e1; exact e2
    | _ => cases e1
  exact sat_gtg (c := c) O.co.K hcur (.tp is) Z σ H1 env M1 v d env' _ (st.stp s1 ok1) r1 eb fun σ' st' _ => en.nx _ _ _ _ s1 st' q1
theorem snds_asgL {is : List Nat} {e : SE} {v : Expr} {es : List Expr} {k : Nat} {p pos : Pos} (hh : c.hot = false) (h : Snd c T N sc e v) (hN : mNms N sc is es = true) (ht : tupB v = false) : SndS c T N sc (.asgL is e) (.Assign [.Tuple es k p] v pos) := fun X W O => by
  obtain ⟨⟨t, h1, h2⟩, _⟩ := h X W O.co
  obtain ⟨g1, g2, g3⟩ := gnms_ok O.co.nd O.set O.co.N hN
  have hcur := (O.co.calm hh).2
  have hs : swapsWithSole [.Tuple es k p] v pos.line X.env = pure false := by
    show swapsWith v (some (.Tuple es k p)) pos.line X.env = pure false
    cases v <;> rfl
  refine ps_weak (ps_asg h1 (pg_lst (O.co.calm hh).1 g1 g2 g3) hs (swp_no ht)) fun D σ H ⟨Z, env, M, K, st, w, en⟩ => ?_
  refine h2 Z σ H env M _ _ _ st w (en.exc st) fun v H1 d M1 s1 ok1 r1 q1 => ?_
  obtain ⟨ds, e1, q1⟩ := obn_of q1
  obtain ⟨env', e2, q1⟩ := obn_of q1
  obtain ⟨a, vs, rfl, h3, z3, q3⟩ := rep_lst ok1 r1 e1
  have hK : X.K = (c.z Z).K := O.co.K
  refine ⟨a, vs, rfl, by rw [hK]; exact SqL.of h3, by rw [q3.len]; exact sat_gtup.setAll_len e2, ?_⟩
  exact sat_gnms hcur is Z σ H1 env M1 vs ds env' _ (st.stp s1 ok1) q3 e2 fun σ' st' _ => en.nx _ _ _ _ s1 st' q1
theorem snds_exp {e : SE} {v : Expr} {pos : Pos} (h : Snd c T N sc e v) (hc : compB v = false) : SndS c T N sc (.exp e) (.Expr v pos) := fun X W O => by
  obtain ⟨⟨t, h1, h2⟩, _⟩ := h X W O.co
  refine ps_weak (ps_expr h1 (sw_no hc)) fun D σ H ⟨Z, env, M, K, st, w, en⟩ => ?_
  exact h2 Z σ H env M _ _ _ st w (en.exc st) fun v H1 d M1 s1 ok1 r1 q1 => en.nx _ _ _ _ s1 (st.stp s1 ok1) q1
theorem snds_ret {e : SE} {v : Expr} {pos : Pos} (h : Snd c T N sc e v) : SndS c T N sc (.ret e) (.Return (some v) pos) := fun X W O => by
  obtain ⟨⟨t, h1, h2⟩, _⟩ := h X W O.co
  refine ps_weak (ps_ret h1) fun D σ H ⟨Z, env, M, K, st, w, en⟩ => ?_
  exact h2 Z σ H env M _ _ _ st w (en.exc st) fun v H1 d M1 s1 ok1 r1 q1 => en.rt _ _ _ _ s1 ok1 r1 q1
theorem snds_retN {pos : Pos} : SndS c T N sc .retN (.Return none pos) := fun X W O =>
  ps_weak ps_retN fun D σ H ⟨Z, env, M, K, st, w, en⟩ => en.rt _ _ _ _ .refl st.cells .non w
theorem snds_pass {pos : Pos} : SndS c T N sc .pass (.Pass pos) := fun X W O =>
  ps_weak ps_pass fun D σ H ⟨Z, env, M, K, st, w, en⟩ => en.nx _ _ _ _ .refl st w
theorem snds_brk {pos : Pos} : SndS c T N sc .brk (.Break pos) := fun X W O =>
  ps_weak ps_break fun D σ H ⟨Z, env, M, K, st, w, en⟩ => en.bk _ _ _ _ .refl st w
theorem snds_cont {pos : Pos} : SndS c T N sc .cont (.Continue pos) := fun X W O =>
  ps_weak ps_continue fun D σ H ⟨Z, env, M, K, st, w, en⟩ => en.ct _ _ _ _ .refl st w
theorem snds_ifs {e : SE} {v : Expr} {a b : List SS} {av bv : List Stmt} {pos : Pos} (h : Snd c T N sc e v) (ha : SndSs c T N sc a av) (hb : SndSs c T N sc b bv) : SndS c T N sc (.ifs e a b) (.If v av bv pos) := fun X W O => by
  obtain ⟨_, t, h1, h2⟩ := h X W O.co
  refine ps_weak (ps_if h1 (ha X W O) (hb X W O)) fun D σ H ⟨Z, env, M, K, st, w, en⟩ => ?_
  refine h2 Z σ H env M (fun t M' => br t (wSs T a K env M') (wSs T b K env M')) _ _ st w (en.exc st) fun b H1 M1 s1 ok1 q1 => ?_
  cases b with
  | true => rw [if_pos rfl]; exact ⟨Z, env, M1, K, st.stp s1 ok1, q1, en.stp s1⟩
  | false => rw [if_neg Bool.false_ne_true]; exact ⟨Z, env, M1, K, st.stp s1 ok1, q1, en.stp s1⟩
theorem sndss_nil : SndSs c T N sc [] [] := fun X W O => pss_weak pss_nil fun D σ H ⟨Z, env, M, K, st, w, en⟩ => en.nx _ _ _ _ .refl st w
theorem sndss_cons {s : SS} {r : List SS} {st : Stmt} {sts : List Stmt} (h1 : SndS c T N sc s st) (h2 : SndSs c T N sc r sts) : SndSs c T N sc (s :: r) (st :: sts) := fun X W O => by
  refine pss_weak (pss_cons (h1 X W O) (h2 X W O)) fun D σ H ⟨Z, env, M, K, st, w, en⟩ => ?_
  exact ⟨Z, env, M, _, st, w, fun σ' H' env' M' s st' q => ⟨Z, env', M', K, st', q, en.stp s⟩, en.rt, en.bk, en.ct, en.ex⟩
theorem snds_whl {e : SE} {v : Expr} {b : List SS} {bv : List Stmt} {pos : Pos} (hh : c.hot = false) (h : Snd c T N sc e v) (hb : SndSs c T N sc b bv) : SndS c T N sc (.whl e b) (.While v bv [] pos) := fun X W O => by
  obtain ⟨_, t, h1, h2⟩ := h X W O.co
  refine ps_weak (ps_while (O.own hh).2.2 h1 (hb X W O)) fun D σ H ⟨Z, env, M, K, st, w, en⟩ => ?_
  obtain ⟨n, w⟩ := (show ∃ n, whN _ _ K n env M from w)
  refine ⟨fun m σ' H' => ∃ env' M', Stp H M H' M' ∧ Sta (c.z Z) σ' H' env' M' ∧ whN (fun env M Q => wE T e env M Q (fun x M' => K.ex x env M')) (fun K env M => wSs T b K env M) K m env' M', ⟨n, env, M, .refl, st, w⟩, ?_⟩
  rintro m σ1 H1 ⟨env1, M1, s1, st1, w1⟩
  cases m with
  | zero => exact False.elim w1
  | succ m =>
    refine h2 Z σ1 H1 env1 M1 (fun t M' => br t (wSs T b _ env1 M') (K.nx env1 M')) _ _ st1 w1 ((en.stp s1).exc st1) fun b' H2 M2 s2 ok2 q2 => ?_
    cases b' with
    | true =>
      rw [if_pos rfl]
      refine ⟨fun σ' H' => ∃ env' M', Stp H M H' M' ∧ Sta (c.z Z) σ' H' env' M' ∧ whN (fun env M Q => wE T e env M Q (fun x M' => K.ex x env M')) (fun K env M => wSs T b K env M) K m env' M', fun σ' H' q => ⟨m, Nat.lt_succ_self m, q⟩, Z, env1, M2, _, st1.stp s2 ok2, q2, ?_⟩
      have sA := s1.trans s2
      exact ⟨fun _ _ env' M' s st' q => ⟨env', M', sA.trans s, st', q⟩, (en.stp sA).rt, (en.stp sA).nx, fun _ _ env' M' s st' q => ⟨env', M', sA.trans s, st', q⟩, (en.stp sA).ex⟩
    | false =>
      rw [if_neg Bool.false_ne_true]
      exact en.nx _ _ _ _ (s1.trans s2) (st1.stp s2 ok2) q2
theorem snds_fors {tg : Tg} {k : ItK} {es : List SE} {b : List SS} {t it : Expr} {bv : List Stmt} {pos : Pos} (hh : c.hot = false) (hi : ItE c T N sc k tg es it) (htg : mTg N sc tg t = true) (hb : SndSs c T N sc b bv) : SndS c T N sc (.fors tg k es b) (.For t it bv [] pos) := fun X W O => by
  obtain ⟨wi, p1, p2⟩ := it_ok (tgE := t) O.co hi (mTg_tp htg).1
  have hcur := (O.co.calm hh).2
  have hg := sat_gtg (c := c) O.co.K hcur tg
  refine ps_weak (ps_for (O.own hh).2.2 (O.co.calm hh).1 p1 (gtg_ok (O.co.calm hh).1 O.co.nd O.set O.co.N htg) (hb X W O) (noSet (SndL.it_fine hi))) fun D σ H ⟨Z, env, M, K, st, w, en⟩ => ?_
  refine p2 Z σ H env M (fun ds items M1 => forL (fun M' => itD k ds M' = some items) (fun K env M => wSs T b K env M) tg K items env M1) _ _ st w (en.exc st) fun J H1 M1 ds items s1 ok1 e1 q1 its => ?_
  have J0 := its Z fun a z => .inl z
  refine ⟨fun i m σ' H' => m = items.length - i ∧ i ≤ items.length ∧ ∃ env' M', Stp H1 M1 H' M' ∧ Sta (c.z Z) σ' H' env' M' ∧ forL (fun M' => itD k ds M' = some items) (fun K env M => wSs T b K env M) tg K (items.drop i) env' M', ⟨_, rfl, Nat.zero_le _, env, M1, .refl, st.stp s1 ok1, q1⟩, ?_⟩
  rintro i m σ2 H2 ⟨rfl, hle, env2, M2, s2, st2, q2⟩
  by_cases hlt : i < items.length
  · rw [drop_cons hlt] at q2
    obtain ⟨ch, q2⟩ := q2
    obtain ⟨env', eb, q2⟩ := obn_of q2
    obtain ⟨J1, _⟩ := J0 H2 M2 s2 st2.cells ch
    obtain ⟨go, yl⟩ := J1 i items[i] (by rw [List.getElem?_eq_getElem hlt])
    refine .inr ⟨go, fun σ' H' => ∃ env' M', Stp H1 M1 H' M' ∧ Sta (c.z Z) σ' H' env' M' ∧ forL (fun M' => itD k ds M' = some items) (fun K env M => wSs T b K env M) tg K (items.drop (i + 1)) env' M', fun σ' H' q => ⟨items.length - (i + 1), by omega, rfl, hlt, q⟩, fun x H3 y => ?_⟩
    obtain ⟨s3, ok3, rx⟩ := yl x H3 y
    refine hg Z σ2 H3 env2 M2 x _ env' _ (st2.stp s3 ok3) rx eb fun σ' st' _ => ⟨Z, env', M2, _, st', q2, ?_⟩
    have sA := s2.trans s3
    have enA := en.stp (s1.trans sA)
    exact ⟨fun _ _ env' M' s st' q => ⟨env', M', sA.trans s, st', q⟩, enA.rt, enA.nx, fun _ _ env' M' s st' q => ⟨env', M', sA.trans s, st', q⟩, enA.ex⟩
  · have e : i = items.length := by omega
    subst e
    rw [List.drop_length] at q2
    obtain ⟨ch, q2⟩ := q2
    exact .inl ⟨(J0 H2 M2 s2 st2.cells ch).2 _ (Nat.le_refl _), en.nx _ _ _ _ (s1.trans s2) st2 q2⟩
end
end L3

set_option maxRecDepth 100000
set_option maxHeartbeats 8000000
namespace L3
open PySem L2
section
variable {X : Cx} {c : Cfg} {T : Tab} {N : List PySem.Str} {sc : Scope} {W : WX}
/-! ### fields set -/
theorem putF_rep {l : List Nm} (nd : (l.map Nm.s).Nodup) {f : Nm} (hf : f ∈ l) {H : Hp} {M : Mm} {v : V} {d : D} (rv : Rep c H M v d) : ∀ {vs : List (PySem.Str × V)} {fs : List (Nm × D)}, RepF c H M vs fs → (∀ p ∈ fs, p.1 ∈ l) →
    RepF c H M (L2.putF f.s v vs) (L3.putF fs f d) ∧ (∀ p ∈ L3.putF fs f d, p.1 ∈ l)
  | _, _, .nil, _ => ⟨.cons rv .nil, fun p hp => by simp [L3.putF] at hp; subst hp; exact hf⟩
  | _, _, .cons (n := n) (v := w) (d := e) (vs := vs) (fs := fs) a r, hk => by
    by_cases q : n = f
    · subst q
      have e1 : L2.putF n.s v ((n.s, w) :: vs) = (n.s, v) :: vs := by simp [L2.putF]
      have e2 : L3.putF ((n, e) :: fs) n d = (n, d) :: fs := by simp [L3.putF]
      rw [e1, e2]
      exact ⟨.cons rv r, fun p hp => by
        rcases List.mem_cons.mp hp with rfl | hp
        · exact hf
        · exact hk p (List.mem_cons_of_mem _ hp)⟩
    · have ne : n.s ≠ f.s := fun e => q (nodup_s nd (hk _ List.mem_cons_self) hf e)
      have e1 : L2.putF f.s v ((n.s, w) :: vs) = (n.s, w) :: L2.putF f.s v vs := by simp [L2.putF, ne]
      have e2 : L3.putF ((n, e) :: fs) f d = (n, e) :: L3.putF fs f d := by simp [L3.putF, q]
      obtain ⟨i1, i2⟩ := putF_rep nd hf rv r fun p hp => hk p (List.mem_cons_of_mem _ hp)
      rw [e1, e2]
      exact ⟨.cons a i1, fun p hp => by
        rcases List.mem_cons.mp hp with rfl | hp
        · exact hk _ List.mem_cons_self
        · exact i2 p hp⟩
theorem RepF.len {H : Hp} {M : Mm} : ∀ {vs : List (PySem.Str × V)} {fs : List (Nm × D)}, RepF c H M vs fs → vs.length = fs.length
  | _, _, .nil => rfl
  | _, _, .cons _ r => by simp [r.len]
theorem insR_rep {H : Hp} {M : Mm} {v : V} {d : D} {a : Addr} {n : Nm} {fs : List (Nm × D)} (ok : Cells c H M) (r : Rep c H M v d) (h : insR M d = some (a, n, fs)) :
    v = .ref a ∧ M a = some (.ins n fs) ∧ ∃ C dx vs, H a = some (.ins C dx vs) ∧ c.icls n = some C ∧ (∀ p ∈ fs, p.1 ∈ c.fl n) ∧ RepF c H M vs fs := by
  cases r with
  | ref b =>
    cases e : M b with
    | none => simp [insR, e] at h
    | some y => cases y with
      | ins m gs =>
        simp [insR, e] at h
        obtain ⟨rfl, rfl, rfl⟩ := h
        cases ok.at' _ _ e with
        | ins h1 z k q => exact ⟨rfl, e, _, _, _, h1, z, k, q⟩
      | _ => simp [insR, e] at h
  | _ => simp [insR] at h
theorem snds_asgF {o e : SE} {f : Nm} {ov v : Expr} {p pos : Pos} (ho : Snd c T N sc o ov) (h : Snd c T N sc e v) : SndS c T N sc (.asgF o f e) (.Assign [.Attribute ov f.s p] v pos) := fun X W O => by
  obtain ⟨⟨t, h1, h2⟩, _⟩ := h X W O.co
  obtain ⟨⟨u, g1, g2⟩, _⟩ := ho X W O.co
  have hs : swapsWith v (some (.Attribute ov f.s p)) pos.line X.env = pure false := by cases v <;> rfl
  refine ps_weak (ps_fld g1 h1 hs) fun D σ H ⟨Z, env, M, K, st, w, en⟩ => ?_
  refine h2 Z σ H env M _ _ _ st w (en.exc st) fun y H1 d M1 s1 ok1 r1 q1 => ?_
  refine g2 Z σ H1 env M1 _ _ _ (st.stp s1 ok1) q1 ((en.stp s1).exc (st.stp s1 ok1)) fun x H2 dx M2 s2 ok2 r2 q2 => ?_
  obtain ⟨⟨a, n, fs⟩, e1, hl, q2⟩ := obn_of q2
  obtain ⟨l, e2, hf, q2⟩ := obn_of q2
  obtain ⟨rfl, e3, C, dx', vs, k1, k2, k3, k4⟩ := insR_rep ok2 r2 e1
  have el := O.co.flT n l e2
  subst el
  obtain ⟨nd, na⟩ := O.co.fl n C k2
  have s3 := stp_set (o := .ins C dx' (L2.putF f.s y vs)) (x' := .ins n (L3.putF fs f d)) ok2 e3
  obtain ⟨r3, k5⟩ := putF_rep nd hf ((r1.stp s2).stp s3) (k4.view s3.view) k3
  have ok3 := cells_set (o := .ins C dx' (L2.putF f.s y vs)) (x' := .ins n (L3.putF fs f d)) ok2 e3 (.ins upd_same k2 k5 r3)
  exact ⟨a, C, dx', vs, rfl, k1, O.co.cls n C k2, na f hf, by rw [k4.len]; exact hl, en.nx _ _ _ _ ((s1.trans s2).trans s3) (((st.stp s1 ok1).stp s2 ok2).stp s3 ok3) q2⟩
/-! ### items set -/
theorem putK_K {H : Hp} {M : Mm} {v : V} {d : D} (rv : Rep c H M v d) (k : Key) : ∀ {ks : List (Key × V)} {kvs : List (D × D)}, RepK c H M ks kvs → RepK c H M (L2.putK ks k v) (L3.putK kvs (keyD k) d) := fun {ks kvs} r => by
  have ha : (ks.any fun kv => decide (kv.1 = k)) = kvs.any fun p => eqKey p.1 (keyD k) := by
    have : ∀ {ks : List (Key × V)} {kvs : List (D × D)}, RepK c H M ks kvs → (ks.any fun kv => decide (kv.1 = k)) = kvs.any fun p => eqKey p.1 (keyD k) := by
      intro ks
      induction ks with
      | nil => intro kvs r; cases r; rfl
      | cons a b ih => intro kvs r; cases r with
        | cons x y => simp only [List.any_cons, eqKey_keyD, ih y]
    exact this r
  have hm : ∀ {ks : List (Key × V)} {kvs : List (D × D)}, RepK c H M ks kvs → RepK c H M (ks.map fun kv => if kv.1 = k then (kv.1, v) else kv) (kvs.map fun p => if eqKey p.1 (keyD k) = true then (p.1, d) else p) := by
    intro ks
    induction ks with
    | nil => intro kvs r; cases r; exact .nil
    | cons a b ih => intro kvs r; cases r with
      | @cons k' v' d' _ _ x y =>
        simp only [List.map_cons, eqKey_keyD, decide_eq_true_eq]
        by_cases e : k' = k
        · simp only [e, if_true]; exact .cons rv (ih y)
        · simp only [e, if_false]; exact .cons x (ih y)
  have hap : ∀ {ks : List (Key × V)} {kvs : List (D × D)}, RepK c H M ks kvs → RepK c H M (ks ++ [(k, v)]) (kvs ++ [(keyD k, d)]) := by
    intro ks
    induction ks with
    | nil => intro kvs r; cases r; exact .cons rv .nil
    | cons a b ih => intro kvs r; cases r with
      | cons x y => exact .cons x (ih y)
  unfold L2.putK L3.putK
  rw [ha]
  split
  · exact hm r
  · exact hap r
theorem putK_T {H : Hp} {M : Mm} {v : V} {d : D} (rv : Rep c H M v d) (k : List Key) (hk : k.length ≤ sizeLine) : ∀ {ks : List (List Key × V)} {kvs : List (D × D)}, RepT c H M ks kvs → RepT c H M (L2.putK ks k v) (L3.putK kvs (.tup (k.map keyD)) d) := fun {ks kvs} r => by
  have ha : (ks.any fun kv => decide (kv.1 = k)) = kvs.any fun p => eqKey p.1 (.tup (k.map keyD)) := by
    have : ∀ {ks : List (List Key × V)} {kvs : List (D × D)}, RepT c H M ks kvs → (ks.any fun kv => decide (kv.1 = k)) = kvs.any fun p => eqKey p.1 (.tup (k.map keyD)) := by
      intro ks
      induction ks with
      | nil => intro kvs r; cases r; rfl
      | cons a b ih => intro kvs r; cases r with
        | cons z x y => simp only [List.any_cons, eqKey_tup, ih y]
    exact this r
  have hm : ∀ {ks : List (List Key × V)} {kvs : List (D × D)}, RepT c H M ks kvs → RepT c H M (ks.map fun kv => if kv.1 = k then (kv.1, v) else kv) (kvs.map fun p => if eqKey p.1 (.tup (k.map keyD)) = true then (p.1, d) else p) := by
    intro ks
    induction ks with
    | nil => intro kvs r; cases r; exact .nil
    | cons a b ih => intro kvs r; cases r with
      | @cons k' v' d' _ _ z x y =>
        simp only [List.map_cons, eqKey_tup, decide_eq_true_eq]
        by_cases e : k' = k
        · simp only [e, if_true]; exact .cons hk rv (ih y)
        · simp only [e, if_false]; exact .cons z x (ih y)
  have hap : ∀ {ks : List (List Key × V)} {kvs : List (D × D)}, RepT c H M ks kvs → RepT c H M (ks ++ [(k, v)]) (kvs ++ [(.tup (k.map keyD), d)]) := by
    intro ks
    induction ks with
    | nil => intro kvs r; cases r; exact .cons hk rv .nil
    | cons a b ih => intro kvs r; cases r with
      | cons z x y => exact .cons z x (ih y)
  unfold L2.putK L3.putK
  rw [ha]
  split
  · exact hm r
  · exact hap r
theorem putK_len {κ : Type} [DecidableEq κ] (kvs : List (κ × V)) (k : κ) (v : V) : (L2.putK kvs k v).length ≤ kvs.length + 1 := by
  unfold L2.putK
  split <;> simp
def rSetU : TSet := fun o i v H Q => rSetL o i v H Q ∨ rSetD o i v H Q
theorem set_U (hu : X.A.units + 1 < cLine) : PSet X rSetU := by
  intro pins s σ H o i v ov iv u Q I ro ri rv h
  rcases h with h | h
  · exact set_list pins s σ H o i v ov iv u Q I ro ri rv h
  · exact set_dict hu pins s σ H o i v ov iv u Q I ro ri rv h
theorem setI_sat {H : Hp} {M : Mm} {o i v : V} {d1 d2 d : D} {Q : Mm → Prop} {k : Hp → Prop} (ok : Cells c H M) (ro : Rep c H M o d1) (ri : Rep c H M i d2) (rv : Rep c H M v d) (h : setI d1 d2 d M Q)
    (hk : ∀ H' M', Stp H M H' M' → Cells c H' M' → Q M' → k H') : rSetU o i v H k := by
  cases ro with
  | ref a =>
    cases e : M a with
    | none => simp [setI, e] at h
    | some x => cases x with
      | ins _ _ => simp [setI, e] at h
      | dct t kvs =>
        have h : cnd (keyOk t d2 = true) (cnd (kvs.length < sizeLine) (Q (up M a (.dct t (putK kvs d2 d))))) := by simpa [setI, e] using h
        obtain ⟨h1, h2, h⟩ := h
        cases t with
        | false =>
          obtain ⟨k', rfl, rfl⟩ := key_flat ri h1
          cases ok.at' _ _ e with
          | @dK ks0 _ g z q =>
            have s := stp_set (o := .dK (L2.putK ks0 k' v)) (x' := .dct false (putK kvs (keyD k') d)) ok e
            refine .inr ⟨a, _, rfl, .k g (by rw [q.len]; exact h2), hk _ _ s (cells_set ok e (.dK upd_same ?_ (putK_K (rv.stp s) k' (q.view s.view)))) h⟩
            exact Nat.le_trans (putK_len _ k' v) (by rw [q.len]; exact h2)
        | true =>
          have hz : ∃ (b : Addr) (ks : List Key), i = .ref b ∧ H b = some (.tup (ks.map kV)) ∧ d2 = .tup (ks.map keyD) ∧ ks.length ≤ sizeLine := by
            obtain ⟨b, ks, e1, e2, e3⟩ := key_tup ri h1
            refine ⟨b, ks, e1, e2, e3, ?_⟩
            subst e3
            cases ri with
            | tup g n z q => rw [q.len, List.length_map] at z; exact z
          obtain ⟨b, ks, rfl, hb, rfl, hkl⟩ := hz
          cases ok.at' _ _ e with
          | @dT ks0 _ g z q =>
            have s := stp_set (o := .dT (L2.putK ks0 ks v)) (x' := .dct true (putK kvs (.tup (ks.map keyD)) d)) ok e
            refine .inr ⟨a, _, rfl, .t g hb (by rw [q.len]; exact h2), hk _ _ s (cells_set ok e (.dT upd_same ?_ (putK_T (rv.stp s) ks hkl (q.view s.view)))) h⟩
            exact Nat.le_trans (putK_len _ ks v) (by rw [q.len]; exact h2)
      | lst ds =>
        cases ri with
        | int n =>
          have h : obn (ixN ds.length n) fun k => Q (up M a (.lst (ds.set k d))) := by simpa [setI, e] using h
          obtain ⟨j, e2, h⟩ := obn_of h
          cases ok.at' _ _ e with
          | @lst vs _ g z q =>
            have s := stp_set (o := .lst (vs.set j v)) (x' := .lst (ds.set j d)) ok e
            exact .inl ⟨a, vs, n, j, rfl, rfl, g, by rw [q.len]; exact e2, hk _ _ s (cells_set ok e (.lst upd_same (by rw [List.length_set]; exact z) (Reps.set j (rv.stp s) (q.view s.view)))) h⟩
        | _ => simp [setI, e] at h
  | _ => simp [setI] at h
theorem snds_asgI {o i e : SE} {ov iv v : Expr} {p pos : Pos} (ho : Snd c T N sc o ov) (hi : Snd c T N sc i iv) (hf : fine iv = true) (h : Snd c T N sc e v) : SndS c T N sc (.asgI o i e) (.Assign [.Subscript ov iv p] v pos) := fun X W O => by
  obtain ⟨⟨t, h1, h2⟩, _⟩ := h X W O.co
  obtain ⟨⟨u, g1, g2⟩, _⟩ := ho X W O.co
  obtain ⟨⟨r, k1, k2⟩, _⟩ := hi X W O.co
  have hu : X.A.units + 1 < cLine := by have := O.co.hu; omega
  have hs : swapsWithSole [.Subscript ov iv p] v pos.line X.env = pure false := by
    show swapsWith v (some (.Subscript ov iv p)) pos.line X.env = pure false
    cases v <;> rfl
  have hw : swappedStores [.Subscript ov iv p] v X.env = pure none := by cases v <;> rfl
  refine ps_weak (ps_asg h1 (pg_sub g1 k1 (set_U hu) (by intro v; cases iv <;> first | rfl | cases hf)) hs hw) fun D σ H ⟨Z, env, M, K, st, w, en⟩ => ?_
  refine h2 Z σ H env M _ _ _ st w (en.exc st) fun y H1 d M1 s1 ok1 r1 q1 => ?_
  refine g2 Z σ H1 env M1 _ _ _ (st.stp s1 ok1) q1 ((en.stp s1).exc (st.stp s1 ok1)) fun x H2 dx M2 s2 ok2 r2 q2 => ?_
  refine k2 Z σ H2 env M2 _ _ _ ((st.stp s1 ok1).stp s2 ok2) q2 ((en.stp (s1.trans s2)).exc ((st.stp s1 ok1).stp s2 ok2)) fun z H3 dz M3 s3 ok3 r3 q3 => ?_
  exact setI_sat ok3 (r2.stp s3) r3 ((r1.stp s2).stp s3) q3 fun H' M' s ok q => en.nx _ _ _ _ (((s1.trans s2).trans s3).trans s) ((((st.stp s1 ok1).stp s2 ok2).stp s3 ok3).stp s ok) q
end
end L3

set_option maxRecDepth 100000
set_option maxHeartbeats 8000000
namespace L3
open PySem L2
section
variable {X : Cx} {c : Cfg} {T : Tab} {N : List PySem.Str} {sc : Scope} {W : WX}
/-! ### x op= e -/
theorem PIp.or {op : Operator} {t t' : TIp} (h : PIp X op t) (h' : PIp X op t') : PIp X op (fun x y H Q => t x y H Q ∨ t' x y H Q) := fun pins s σ H x y v u Q I r1 r2 q =>
  q.elim (h pins s σ H x y v u Q I r1 r2) (h' pins s σ H x y v u Q I r1 r2)
theorem PIp.no {op : Operator} : PIp X op (fun _ _ _ _ => False) := fun _ _ _ _ _ _ _ _ _ _ _ _ q => q.elim
def AugSat (c : Cfg) (t : TIp) (op : Operator) : Prop := ∀ Z x y H M dx dy Q k, Cells (c.z Z) H M → Rep (c.z Z) H M x dx → Rep (c.z Z) H M y dy → augD op dx dy M Q → Cont (c.z Z) H M Q k → t x y H k
theorem aug_ok (op : Operator) : ∃ t, PIp X op t ∧ AugSat c t op := by
  cases op with
  | Add =>
    refine ⟨_, ip_add, fun Z x y H M dx dy Q k ok rx ry h hk => ?_⟩
    cases dx with
    | int i => cases dy with
      | int j => rw [rep_int rx, rep_int ry]; exact ⟨i, j, rfl, rfl, hk _ _ _ _ .refl ok (.int _) h⟩
      | _ => exact False.elim h
    | _ => exact False.elim h
  | Sub =>
    refine ⟨_, ip_sub, fun Z x y H M dx dy Q k ok rx ry h hk => ?_⟩
    obtain ⟨i, j, rfl, rfl, h⟩ := intQ_of h
    rw [rep_int rx, rep_int ry]
    exact ⟨i, j, rfl, rfl, hk _ _ _ _ .refl ok (.int _) h⟩
  | _ => exact ⟨_, PIp.no, fun Z x y H M dx dy Q k ok rx ry h hk => False.elim h⟩
theorem snds_aug {i : Nat} {op : Operator} {e : SE} {v : Expr} {x : PySem.Str} {p pos : Pos} (h : Snd c T N sc e v) (hN : N[i]? = some x) (hl : locB sc x = true) (hi : c.cu ≠ some i) : SndS c T N sc (.aug i op e) (.AugAssign (.Name x p) op v pos) := fun X W O => by
  obtain ⟨⟨t, h1, h2⟩, _⟩ := h X W O.co
  obtain ⟨ti, p1, p2⟩ := aug_ok (X := X) (c := c) op
  refine ps_weak (ps_aug O.co.nd (N_get O.co hN) (O.set x hl).1 h1 p1 (O.set x hl).2) fun D σ H ⟨Z, env, M, K, st, w, en⟩ => ?_
  obtain ⟨dx, ex, w⟩ := obn_of w
  unfold varE at ex
  split at ex
  · rename_i d' e'
    obtain rfl : d' = dx := Option.some.inj ex
    obtain ⟨xv, hx, rx⟩ := st.env' i d' e'
    refine ⟨xv, hx, h2 Z σ H env M _ _ _ st w (en.exc st) fun y H1 d M1 s1 ok1 r1 q1 => ?_⟩
    refine p2 Z xv y H1 M1 _ d _ _ ok1 (rx.stp s1) r1 q1 fun z H2 dz M2 s2 ok2 r2 q2 => ?_
    exact en.nx _ _ _ _ (s1.trans s2) (((st.stp s1 ok1).stp s2 ok2).set r2 i (at_of hi Z)) q2
  · cases ex
/-! ### raise -/
theorem snds_raise {n : Nm} {m : PySem.Str} {j : Nat} {p p2 p3 pos : Pos} (hh : c.hot = false) (hg : glB sc n.s = true) (hn : nmB n.s = true) : SndS c T N sc (.raise n [.str m]) (.Raise (some (.Call (.Name n.s p) [.Constant (.str m) j p2] [] p3)) none pos) := fun X W O => by
  obtain ⟨n1, n2, n3⟩ := nmB_of hn
  cases e : lk T.xc n with
  | none =>
    refine ⟨fun pins s σ H D I ⟨Z, env, M, K, st, w, en⟩ => ?_⟩
    have w : obn (lk T.xc n) fun fs => K.ex ⟨n, fs.zip [.str m]⟩ env M := w
    rw [e] at w
    exact False.elim w
  | some fs =>
    obtain ⟨rfl, C, newId, initId, bmB, B, hC, F, q, kC, r⟩ := O.co.xc n fs e
    refine ps_weak (ps_raise (O.co.calm hh).1 O.co.tk (pmk_own F q (O.co.clsG n C hC) kC r (gl_of O.co hg) n1)) fun D σ H ⟨Z, env, M, K, st, w, en⟩ => ?_
    have w : obn (lk T.xc n) fun fs => K.ex ⟨n, fs.zip [.str m]⟩ env M := w
    rw [e] at w
    exact en.ex (.ref C) none σ H ⟨n, []⟩ env M .refl st ⟨C, hC, rfl, .inl ⟨rfl, rfl⟩⟩ w
/-! ### try -/
theorem COk.tr (O : COk c T N sc X W) {W' : WX} {pn : List (Addr × Obj)} {xe : Value → Shared → Prop} (hh : c.hot = false) (tk : Takes (X.tr pn xe) W') : COk c T N sc (X.tr pn xe) W' where
  N := O.N
  nd := O.nd
  sc := O.sc
  calm := O.calm
  K := O.K
  bi := O.bi
  tk := tk
  hu := O.hu
  fn := O.fn
  mt := O.mt
  cl := O.cl
  gl := O.gl
  cls := O.cls
  fl := O.fl
  flT := O.flT
  flM := O.flM
  sub := O.sub
  own := O.own
  icl := O.icl
  clsG := O.clsG
  isO := O.isO
  isI := O.isI
  isX := O.isX
  exm := O.exm
  xc := O.xc
  cur := fun i a n dd e => by rw [(O.calm hh).2] at e; cases e
theorem SOk.tr (O : SOk c T N sc X W) {W' : WX} {pn : List (Addr × Obj)} {xe : Value → Shared → Prop} (hh : c.hot = false) (tk : Takes (X.tr pn xe) W') (po : PassesOwn (model X.prog X.w) X.A X.env xe) : SOk c T N sc (X.tr pn xe) W' :=
  ⟨O.co.tr hh tk, O.set, O.kind, fun _ => ⟨(O.own hh).1, (O.own hh).2.1, po⟩⟩
theorem SOk.suite (O : SOk c T N sc X W) (hh : c.hot = false) {a : Addr} {oe : Obj} {n : Nm} {C : Addr} {d : Option Addr} {pn : List (Addr × Obj)} (k : Option Nat) (hC : c.cls n = some C) (hz : Zc (.ref C) d oe) (hf : ∃ vs, oe.data = .fields vs) (hs : (lk T.sub n).isSome = true) :
    SOk (c.su true (k.map fun i => (i, a, n, d))) T N sc (X.suite a ((a, oe) :: pn)) Wno :=
  ⟨{ N := O.co.N, nd := O.co.nd, sc := O.co.sc, calm := fun h => (nomatch h), K := O.co.K, bi := O.co.bi, tk := takes_none5, hu := O.co.hu, fn := fun h => (nomatch h), mt := fun h => (nomatch h), cl := fun h => (nomatch h),
     gl := fun n d h => let ⟨u, v, h1, h2, h3⟩ := O.co.gl n d h; ⟨u, v, h1, h2, fun Z H M => (h3 Z H M).su⟩, cls := O.co.cls, fl := O.co.fl, flT := O.co.flT, flM := O.co.flM, sub := O.co.sub, own := O.co.own, icl := O.co.icl, clsG := O.co.clsG, isO := O.co.isO, isI := O.co.isI, isX := O.co.isX, exm := O.co.exm, xc := O.co.xc,
     cur := fun i b m dd e => by
       cases k with
       | none => cases e
       | some j =>
         have e : some (j, a, n, d) = some (i, b, m, dd) := e
         cases e
         exact ⟨X, oe, pn, C, rfl, hC, hz, hf, hs⟩ }, O.set, O.kind, fun h => (nomatch h)⟩
/-- what the suite of an except is read as -/
def rdH (c : Cfg) (T : Tab) (k : Option Nat) (h : List SS) (a : Addr) (cls : Value) (d : Option Addr) : TS := fun D σ H => ∃ n C, cls = .ref C ∧ c.cls n = some C ∧ (lk T.sub n).isSome = true ∧ rdS (c.su true (k.map fun i => (i, a, n, d))) Wno (wSs T h) D σ H
theorem rdH_ok (O : SOk c T N sc X W) (hh : c.hot = false) {k : Option Nat} {h : List SS} {hb : List Stmt} (hs : ∀ a n d, SndSs (c.su true (k.map fun i => (i, a, n, d))) T N sc h hb) (a : Addr) (oe : Obj) (cls : Value) (d : Option Addr) (pn : List (Addr × Obj)) (hz : Zc cls d oe) (hf : ∃ vs, oe.data = .fields vs) :
    PSs (X.suite a ((a, oe) :: pn)) hb (rdH c T k h a cls d) := ⟨fun pins s σ H D I ⟨n, C, e, hC, hl, q⟩ => by
  subst e
  exact (hs a n d _ _ (O.suite hh k hC hz hf hl)).run pins s σ H D I q⟩
/-- a frame's values, in a suite or out of it -/
theorem Sta.su {σ : St} {H : Hp} {env : Env} {M : Mm} {h : Bool} {u : Option (Nat × Addr × Nm × Option Addr)} (st : Sta c σ H env M)
    (hc : ∀ i a n dd, u = some (i, a, n, dd) → σ[i]? = some (some (.ref a)) ∧ ∃ fs, env[i]? = some (some (.exc n fs)) ∧ ((dd = none ∧ fs = []) ∨ ∃ x vs, dd = some x ∧ H x = some (.xd vs) ∧ M x = none ∧ RepF c H M vs fs ∧ fs ≠ [])) : Sta (c.su h u) σ H env M :=
  ⟨st.cells.su, st.len, fun i d e => let ⟨v, h1, h2⟩ := st.env' i d e; ⟨v, h1, h2.su⟩, fun i a n dd e => by
    obtain ⟨h1, fs, h2, h3⟩ := hc i a n dd e
    refine ⟨h1, fs, h2, h3.imp id ?_⟩
    rintro ⟨x, vs, e1, e2, e3, e4, ne⟩
    exact ⟨x, vs, e1, e2, e3, e4.su, ne⟩⟩
theorem su_back (hh : c.hot = false) (hc : c.cur = none) {h : Bool} {u : Option (Nat × Addr × Nm × Option Addr)} {Z : Addr → Prop} : (((c.su h u).z Z).su false none) = c.z Z := by
  unfold Cfg.su Cfg.z
  rw [← hh, ← hc]
theorem Sta.out {σ : St} {H : Hp} {env : Env} {M : Mm} {h : Bool} {u : Option (Nat × Addr × Nm × Option Addr)} {Z : Addr → Prop} (hh : c.hot = false) (hc : c.cur = none) (st : Sta ((c.su h u).z Z) σ H env M) : Sta (c.z Z) σ H env M := by
  rw [← su_back hh hc (h := h) (u := u)]
  exact st.su fun i a n dd e => nomatch e
theorem Rep.out {v : V} {d : D} {H : Hp} {M : Mm} {h : Bool} {u : Option (Nat × Addr × Nm × Option Addr)} {Z : Addr → Prop} (hh : c.hot = false) (hc : c.cur = none) (st : Rep ((c.su h u).z Z) H M v d) : Rep (c.z Z) H M v d := by
  rw [← su_back hh hc (h := h) (u := u)]
  exact st.su
theorem Cells.out {H : Hp} {M : Mm} {h : Bool} {u : Option (Nat × Addr × Nm × Option Addr)} {Z : Addr → Prop} (hh : c.hot = false) (hc : c.cur = none) (st : Cells ((c.su h u).z Z) H M) : Cells (c.z Z) H M := by
  rw [← su_back hh hc (h := h) (u := u)]
  exact st.su
theorem snds_try {b h : List SS} {n : Nm} {k : Option Nat} {m : Option PySem.Str} {bv hs : List Stmt} {h0 : Stmt} {p p2 pos : Pos} (hh : c.hot = false) (hg : glB sc n.s = true) (hn : nmB n.s = true) (hd : hdB N sc k m = true) (hb : SndSs c T N sc b bv)
    (hsu : ∀ a n d, SndSs (c.su true (k.map fun i => (i, a, n, d))) T N sc h (h0 :: hs)) : SndS c T N sc (.tryx b n k h) (.Try bv [.ExceptHandler (some (.Name n.s p)) m (h0 :: hs) p2] [] [] pos) := fun X W O => by
  obtain ⟨n1, n2, n3⟩ := nmB_of hn
  obtain ⟨o1, o2, o3⟩ := O.own hh
  have hcur := (O.co.calm hh).2
  -- what follows an exception, whichever clause
  cases hl : (lk T.sub n).isSome with
  | false =>
    refine ⟨fun pins s σ H D I ⟨Z, env, M, K, st, w, en⟩ => ?_⟩
    have w : cnd ((lk T.sub n).isSome = true) _ := w
    rw [hl] at w
    exact absurd w.1 Bool.false_ne_true
  | true =>
    obtain ⟨l0, hl0⟩ := Option.isSome_iff_exists.mp hl
    obtain ⟨C, hC⟩ := Option.isSome_iff_exists.mp (O.co.sub n l0 hl0)
    have nm : Names X n.s (.ref C) := ⟨gl_of O.co hg, n1, .inl (O.co.clsG n C hC)⟩
    have body : ∀ (W : WX) (pn : List (Addr × Obj)) (xe : Value → Shared → Prop), Takes (X.tr pn xe) W → PassesOwn (model X.prog X.w) X.A X.env xe → PSs (X.tr pn xe) bv (rdS c W (wSs T b)) := fun W pn xe tk po => hb _ _ (O.tr hh tk po)
    cases k with
    | none =>
      cases m with
      | some _ => simp [hdB] at hd
      | none =>
        refine ps_weak (ps_try_only o1 o2 nm O.co.tk body (rdH_ok O hh hsu)) fun D σ H ⟨Z, env, M, K, st, w, en⟩ => ?_
        refine ⟨Z, env, M, _, st, w.2, en.nx, en.rt, en.bk, en.ct, fun cls d σ' H' x env' M' s st' xr q => ?_⟩
        obtain ⟨l, el, q⟩ := obn_of q
        obtain ⟨Cx', hx, rfl, hxd⟩ := xr
        refine ⟨_, O.co.exm x.c l el Cx' hx n C hC hl, fun eb a na => ?_, fun eb => ?_⟩
        · rw [eb] at q
          refine ⟨x.c, Cx', rfl, hx, by rw [el]; rfl, Z, env', M', K.sui, st'.su (fun i a n dd e => nomatch e), q, ?_⟩
          have en' := en.stp s
          exact ⟨fun _ _ _ _ s st q => en'.nx _ _ _ _ s (st.out hh hcur) q, fun _ _ _ _ s ok r q => en'.rt _ _ _ _ s (ok.out hh hcur) (r.out hh hcur) q, fun _ _ _ _ s st q => en'.bk _ _ _ _ s (st.out hh hcur) q, fun _ _ _ _ s st q => en'.ct _ _ _ _ s (st.out hh hcur) q, fun _ _ _ _ _ _ _ _ _ _ q => q⟩
        · rw [eb] at q
          exact en.ex _ _ _ _ _ _ _ s st' ⟨Cx', hx, rfl, hxd⟩ q
    | some i =>
      cases m with
      | none => simp [hdB] at hd
      | some y =>
        simp only [hdB, Bool.and_eq_true, decide_eq_true_eq] at hd
        refine ps_weak (ps_try_as o1 o2 O.co.nd (N_get O.co hd.1) (show X.env.scope.names.lookup y = _ by rw [O.co.sc]; exact hd.2) nm O.co.tk body (rdH_ok O hh hsu)) fun D σ H ⟨Z, env, M, K, st, w, en⟩ => ?_
        refine ⟨Z, env, M, _, st, w.2, en.nx, en.rt, en.bk, en.ct, fun cls d σ' H' x env' M' s st' xr q => ?_⟩
        obtain ⟨l, el, q⟩ := obn_of q
        obtain ⟨Cx', hx, rfl, hxd⟩ := xr
        refine ⟨_, O.co.exm x.c l el Cx' hx n C hC hl, fun eb a na => ?_, fun eb => ?_⟩
        · rw [eb] at q
          obtain ⟨hlen, q⟩ := (show cnd (i < env'.length) _ from q)
          refine ⟨x.c, Cx', rfl, hx, by rw [el]; rfl, Z, env'.set i (some (.exc x.c x.fs)), M', (K.out i).sui, (st'.set (.exc a x.c x.fs) i (by unfold Cfg.at; show (match c.cur with | some (j, _) => decide (j = i) | none => false) = false; rw [hcur])).su (fun j a' n' dd e => ?_), q, ?_⟩
          · have e : some (i, a, x.c, d) = some (j, a', n', dd) := e
            cases e
            refine ⟨by rw [List.getElem?_set_self (by rw [st'.len]; exact hlen)], x.fs, by rw [List.getElem?_set_self hlen], hxd.imp id ?_⟩
            rintro ⟨a', vs, e1, e2, e3, e4, ne⟩
            exact ⟨a', vs, e1, e2, e3, e4, ne⟩
          · have en' := en.stp s
            have cl : ∀ {σ'' : St} {H'' : Hp} {env'' : Env} {M'' : Mm}, Sta ((c.su true (some (i, a, x.c, d))).z Z) σ'' H'' env'' M'' → Sta (c.z Z) (σ''.set i none) H'' (env''.set i none) M'' := fun st => (st.out hh hcur).unset i none (by unfold Cfg.at; show (match c.cur with | some (j, _) => decide (j = i) | none => false) = false; rw [hcur])
            exact ⟨fun _ _ _ _ s st q => en'.nx _ _ _ _ s (cl st) q, fun _ _ _ _ s ok r q => en'.rt _ _ _ _ s (ok.out hh hcur) (r.out hh hcur) q, fun _ _ _ _ s st q => en'.bk _ _ _ _ s (cl st) q, fun _ _ _ _ s st q => en'.ct _ _ _ _ s (cl st) q, fun _ _ _ _ _ _ _ _ _ _ q => q⟩
        · rw [eb] at q
          exact en.ex _ _ _ _ _ _ _ s st' ⟨Cx', hx, rfl, hxd⟩ q
end
end L3

set_option maxRecDepth 100000
set_option maxHeartbeats 8000000
namespace L3
open PySem L2
section
variable {X : Cx} {c : Cfg} {T : Tab} {N : List PySem.Str} {sc : Scope} {W : WX}
theorem snds_asgC {i : Nat} {m : Bool} {tg : Tg} {k : ItK} {es : List SE} {d x : SE} {y : PySem.Str} {py pos lp : Pos} {elt t it : Expr} {ifs : List Expr} {scope : Scope} (hh : c.hot = false) (hi : ItE c T N sc k tg es it) (htg : mTg N scope tg t = true)
    (hb : blkC N sc scope (ownOf N tg) = true) (hc : (ifs = [] ∧ d = .bl true) ∨ ∃ y, ifs = [y] ∧ Snd c T N (relS scope sc) d y) (hx : Snd c T N (relS scope sc) x elt) (hN : N[i]? = some y) (hl : locB sc y = true) (hci : c.cu ≠ some i)
    (hs : swT sc y py (.ListComp elt [⟨t, it, ifs, 0⟩] scope lp) = true) : SndS c T N sc (.asg i (.comp m tg k es d x)) (.Assign [.Name y py] (.ListComp elt [⟨t, it, ifs, 0⟩] scope lp) pos) := fun X W O => by
  obtain ⟨wi, tt, te, p1, ob, g, h1, h2, sat⟩ := comp_parts (m := m) O.co hh hi htg hb hc hx
  simp only [swT, Bool.and_eq_true, decide_eq_true_eq, Bool.not_eq_true'] at hs
  obtain ⟨⟨s1, s2⟩, s3⟩ := hs
  have e1 : X.env.scope.names.lookup y = some .local := by rw [O.co.sc]; exact s1
  have sw := sw_true (elt := elt) (gs := [⟨t, it, ifs, 0⟩]) (l := pos.line) (by rw [O.co.sc]; exact O.kind) e1 s2 s3
  refine ps_weak (ps_setLc (O.co.calm hh).1 O.co.nd (N_get O.co hN) e1 sw p1 ob g h1 h2 (noSet (SndL.it_fine hi))) fun D σ H ⟨Z, env, M, K, st, w, en⟩ => ?_
  refine sat Z σ H env M _ _ _ st w (en.exc st) fun v H1 d M1 s1 ok1 r1 q1 => ?_
  exact en.nx _ _ _ _ s1 ((st.stp s1 ok1).set r1 i (at_of hci Z)) q1
/-- a comprehension's parts, from the matcher -/
theorem comp_of {m : Bool} {tg : Tg} {k : ItK} {es : List SE} {d x : SE} {e : Expr} (h : mE N (.comp m tg k es d x) sc e = true) (ok : okE c.hot c.cu (.comp m tg k es d x) = true) : ∃ elt t it ifs scope pos, e = .ListComp elt [⟨t, it, ifs, 0⟩] scope pos ∧
    c.hot = false ∧ ItE c T N sc k tg es it ∧ mTg N scope tg t = true ∧ blkC N sc scope (ownOf N tg) = true ∧ ((ifs = [] ∧ d = .bl true) ∨ ∃ y, ifs = [y] ∧ Snd c T N (relS scope sc) d y) ∧ Snd c T N (relS scope sc) x elt := by
  unfold mE at h; split at h
  · rename_i elt t it ifs a scope pos
    simp only [Bool.and_eq_true, decide_eq_true_eq] at h
    simp only [okE, Bool.and_eq_true, Bool.not_eq_true'] at ok
    obtain ⟨⟨⟨⟨⟨rfl, h2⟩, h3⟩, h4⟩, h5⟩, h6⟩ := h
    have hi : ItE c T N sc k tg es it := by
      split at h4
      · rename_i as has
        exact (SndL.ite has (sndEs es _ _ h4 ok.1.1.2)).1
      · cases h4
    refine ⟨elt, t, it, ifs, scope, pos, rfl, ok.1.1.1, hi, h2, h3, ?_, sndE x _ _ h6 ok.2⟩
    split at h5
    · exact .inl ⟨rfl, isTru_of h5⟩
    · exact .inr ⟨_, rfl, sndE d _ _ h5 ok.1.2⟩
    · cases h5
  · cases h
def isCompS : SE → Bool
  | .comp _ _ _ _ _ _ => true
  | _ => false
theorem comp_no {s : SE} {e : Expr} (hs : isCompS s = false) (h : mE N s sc e = true) : compB e = false := by
  cases e with
  | ListComp _ _ _ _ => cases s <;> first | (simp [mE] at h; done) | (cases hs)
  | SetComp _ _ _ _ => cases s <;> first | (simp [mE] at h; done) | (cases hs)
  | DictComp _ _ _ _ _ => cases s <;> first | (simp [mE] at h; done) | (cases hs)
  | _ => rfl
end
mutual
theorem sndS {T : Tab} {N : List PySem.Str} : ∀ (s : SS) (c : Cfg) (sc : Scope) (st : Stmt), mS N sc s st = true → okS c.hot c.cu s = true → SndS c T N sc s st
  | .asg i e, c, sc, st, h, ok => by
    unfold mS at h; split at h
    · simp only [Bool.and_eq_true, decide_eq_true_eq, Bool.or_eq_true, Bool.not_eq_true'] at h
      simp only [okS, Bool.and_eq_true, decide_eq_true_eq] at ok
      obtain ⟨⟨⟨h1, h2⟩, h3⟩, h4⟩ := h
      cases hc : isCompS e with
      | false => exact snds_asg (sndE e _ _ h3 ok.2) h1 h2 ok.1 (.inl (comp_no hc h3))
      | true =>
        cases e with
        | comp m tg k es d x =>
          obtain ⟨elt, t, it, ifs, scope, p, rfl, hh, hi, g1, g2, g3, g4⟩ := comp_of (T := T) h3 ok.2
          rcases h4 with (h4 | h4) | h4
          · cases h4
          · exact snds_asgC hh hi g1 g2 g3 g4 h1 h2 ok.1 h4
          · exact snds_asg (sndE _ _ _ h3 ok.2) h1 h2 ok.1 (.inr h4)
        | _ => cases hc
    · cases h
  | .asgT is e, c, sc, st, h, ok => by
    unfold mS at h; split at h
    · simp only [Bool.and_eq_true, Bool.not_eq_true'] at h
      simp only [okS, Bool.and_eq_true, Bool.not_eq_true'] at ok
      exact snds_asgT ok.1 (sndE e _ _ h.2 ok.2) h.1.1 h.1.2
    · cases h
  | .asgL is e, c, sc, st, h, ok => by
    unfold mS at h; split at h
    · simp only [Bool.and_eq_true, Bool.not_eq_true'] at h
      simp only [okS, Bool.and_eq_true, Bool.not_eq_true'] at ok
      exact snds_asgL ok.1 (sndE e _ _ h.2 ok.2) h.1.1 h.1.2
    · cases h
  | .par _ _, c, sc, st, h, ok => by cases ok
  | .asgF o f e, c, sc, st, h, ok => by
    unfold mS at h; split at h
    · simp only [Bool.and_eq_true, decide_eq_true_eq] at h
      simp only [okS, Bool.and_eq_true] at ok
      obtain ⟨⟨rfl, h1⟩, h2⟩ := h
      exact snds_asgF (sndE o _ _ h1 ok.1.2) (sndE e _ _ h2 ok.2)
    · cases h
  | .asgI o i e, c, sc, st, h, ok => by
    unfold mS at h; split at h
    · simp only [Bool.and_eq_true] at h
      simp only [okS, Bool.and_eq_true] at ok
      exact snds_asgI (sndE o _ _ h.1.1 ok.1.1.2) (sndE i _ _ h.1.2 ok.1.2) (mE_fine h.1.2) (sndE e _ _ h.2 ok.2)
    · cases h
  | .aug i op e, c, sc, st, h, ok => by
    unfold mS at h; split at h
    · simp only [Bool.and_eq_true, decide_eq_true_eq] at h
      simp only [okS, Bool.and_eq_true, decide_eq_true_eq] at ok
      obtain ⟨⟨⟨h1, h2⟩, rfl⟩, h3⟩ := h
      exact snds_aug (sndE e _ _ h3 ok.2) h1 h2 ok.1
    · cases h
  | .augF _ _ _ _, c, sc, st, h, ok => by cases ok
  | .augI _ _ _ _, c, sc, st, h, ok => by cases ok
  | .exp e, c, sc, st, h, ok => by
    unfold mS at h; split at h
    · simp only [Bool.and_eq_true, Bool.not_eq_true'] at h
      exact snds_exp (sndE e _ _ h.2 ok) h.1
    · cases h
  | .ret e, c, sc, st, h, ok => by
    unfold mS at h; split at h
    · exact snds_ret (sndE e _ _ h ok)
    · cases h
  | .retN, c, sc, st, h, ok => by
    unfold mS at h; split at h
    · exact snds_retN
    · cases h
  | .ifs d a b, c, sc, st, h, ok => by
    unfold mS at h; split at h
    · simp only [Bool.and_eq_true] at h
      simp only [okS, Bool.and_eq_true] at ok
      exact snds_ifs (sndE d _ _ h.1.1 ok.1.1) (sndSs a _ _ _ h.1.2 ok.1.2) (sndSs b _ _ _ h.2 ok.2)
    · cases h
  | .whl d b, c, sc, st, h, ok => by
    unfold mS at h; split at h
    · simp only [Bool.and_eq_true] at h
      simp only [okS, Bool.and_eq_true, Bool.not_eq_true'] at ok
      exact snds_whl ok.1.1 (sndE d _ _ h.1 ok.1.2) (sndSs b _ _ _ h.2 ok.2)
    · cases h
  | .fors tg k es b, c, sc, st, h, ok => by
    unfold mS at h; split at h
    · simp only [Bool.and_eq_true] at h
      simp only [okS, Bool.and_eq_true, Bool.not_eq_true'] at ok
      obtain ⟨⟨h1, h2⟩, h3⟩ := h
      split at h2
      · rename_i as has
        exact snds_fors ok.1.1 (SndL.ite has (sndEs es _ _ h2 ok.1.2)).1 h1 (sndSs b _ _ _ h3 ok.2)
      · cases h2
    · cases h
  | .raise n es, c, sc, st, h, ok => by
    unfold mS at h; split at h
    · rename_i x p as p2 p3
      simp only [Bool.and_eq_true, decide_eq_true_eq] at h
      simp only [okS, Bool.not_eq_true'] at ok
      obtain ⟨⟨⟨⟨rfl, h1⟩, h2⟩, h3⟩, h4⟩ := h
      have : ∃ m j p2, es = [.str m] ∧ as = [.Constant (.str m) j p2] := by
        unfold strE at h3
        split at h3
        · rename_i m
          cases as with
          | nil => simp [mEs] at h4
          | cons a r => cases r with
            | cons _ _ => simp [mEs] at h4
            | nil =>
              simp only [mEs, Bool.and_true] at h4
              unfold mE at h4; split at h4
              · rw [of_decide_eq_true h4]; exact ⟨m, _, _, rfl, rfl⟩
              · cases h4
        · cases h3
      obtain ⟨m, j, p4, rfl, rfl⟩ := this
      exact snds_raise ok h1 h2
    · cases h
  | .tryx b n k hd, c, sc, st, h, ok => by
    unfold mS at h; split at h
    · simp only [Bool.and_eq_true, decide_eq_true_eq] at h
      simp only [okS, Bool.and_eq_true, Bool.not_eq_true'] at ok
      obtain ⟨⟨⟨⟨⟨rfl, h1⟩, h2⟩, h3⟩, h4⟩, h5⟩ := h
      refine snds_try ok.1.1 h1 h2 h3 (sndSs b _ _ _ h4 ok.1.2) fun a n d => sndSs hd _ _ _ h5 ?_
      have e : (c.su true (k.map fun i => (i, a, n, d))).cu = k := by
        unfold Cfg.cu Cfg.su
        cases k <;> rfl
      rw [e]
      exact ok.2
    · cases h
  | .pass, c, sc, st, h, ok => by
    unfold mS at h; split at h
    · exact snds_pass
    · cases h
  | .brk, c, sc, st, h, ok => by
    unfold mS at h; split at h
    · exact snds_brk
    · cases h
  | .cont, c, sc, st, h, ok => by
    unfold mS at h; split at h
    · exact snds_cont
    · cases h
  | .frz _, c, sc, st, h, ok => by cases ok
theorem sndSs {T : Tab} {N : List PySem.Str} : ∀ (ss : List SS) (c : Cfg) (sc : Scope) (sts : List Stmt), mSs N sc ss sts = true → okSs c.hot c.cu ss = true → SndSs c T N sc ss sts
  | [], c, sc, sts, h, ok => by
    cases sts with
    | nil => exact sndss_nil
    | cons _ _ => simp [mSs] at h
  | s :: ss, c, sc, sts, h, ok => by
    cases sts with
    | nil => simp [mSs] at h
    | cons st sts =>
      simp only [mSs, Bool.and_eq_true] at h
      simp only [okSs, Bool.and_eq_true] at ok
      exact sndss_cons (sndS s _ _ _ h.1 ok.1) (sndSs ss _ _ _ h.2 ok.2)
end
end L3

set_option maxRecDepth 100000
set_option maxHeartbeats 8000000
namespace L3
open PySem L2 PyProof.Rows
/-! ### a module's facts -/
section
variable {P : Program} {w : World} {K : PySem.W.Frag} {mg : PySem.Str → Option Value} {base : Heap} {c : Cfg} {T : Tab}
/-- what the module holds, whichever def runs -/
structure Wok (K : PySem.W.Frag) (mg : PySem.Str → Option Value) (c : Cfg) (T : Tab) : Prop where
  eK : K = c.K
  hot : c.hot = false
  cur : c.cur = none
  bi : ∀ n ∈ bnames, mg n = none
  gl : ∀ n d, lk T.gl n = some d → ∃ u v, mg n.s = some u ∧ RelV v u ∧ ∀ Z H M, Rep (c.z Z) H M v d
  cls : ∀ n C, c.icls n = some C → Cls K C
  fl : ∀ n C, c.icls n = some C → ((c.fl n).map Nm.s).Nodup ∧ ∀ f ∈ c.fl n, NoAttr K C f.s
  flT : ∀ n l, lk T.fl n = some l → c.fl n = l
  sub : ∀ n l, lk T.sub n = some l → (c.cls n).isSome = true
  own : ∀ n ∈ T.own, (c.cls n).isSome = true
  icl : ∀ n C, c.icls n = some C → (lk T.isn n).isSome = true → c.cls n = some C
  clsG : ∀ n C, c.cls n = some C → mg n.s = some (.ref C)
  isO : ∀ n l, lk T.isn n = some l → ∀ C, c.cls n = some C → C8.InsC K C ∧ ∀ m C', c.cls m = some C' → PySem.W.kitOne K (.ref C) (.ref C') = some (decide (m ∈ l))
  isI : ∀ m C', c.cls m = some C' → (∀ b ∈ btn, PySem.W.kitOne K (.type b) (.ref C') = some false) ∧ ∀ b ∈ btt, PySem.W.kitOne K (.ref C') (.type b) = some (decide (b = "ValueError") && xcB T m)
  isX : ∀ n l, lk T.sub n = some l → ∀ C, c.cls n = some C → ExcC K C ∧ ∀ m C', c.cls m = some C' → PySem.W.kitOne K (.ref C) (.ref C') = some (decide (m ∈ l))
  exm : ∀ n l, lk T.sub n = some l → ∀ C, c.cls n = some C → ∀ m C', c.cls m = some C' → (lk T.sub m).isSome = true → PySem.W.exmOne K (.ref C) (.ref C') = some (decide (m ∈ l))
  xc : ∀ n fs, lk T.xc n = some fs → fs = [] ∧ ∃ C newId initId bmB B, c.cls n = some C ∧ ExcBaseFacts B newId initId bmB ∧ PySem.W.excIn K C bmB newId = true ∧ PySem.W.keepIn K (.ref C) = true ∧ PySem.W.subIn K (.ref C) (.type "BaseException") = some true ∧ PySem.W.typeIn K (.ref C) = some (.type "type")
/-- a def, a method, a class with their contracts: depth k at most -/
def FnG (P : Program) (w : World) (K : PySem.W.Frag) (mg : PySem.Str → Option Value) (base : Heap) (c : Cfg) (k : Nat) (n : Nm) (sp : SpD) : Prop := ∃ f fd ps, FnOk P w K mg base (CX P w) k f fd ps (toSp c sp) ∧ mg n.s = some (.ref f) ∧ PySem.W.keepIn K (.ref f) = true ∧ Binds K fd ps []
def MtG (P : Program) (w : World) (K : PySem.W.Frag) (mg : PySem.Str → Option Value) (base : Heap) (c : Cfg) (k : Nat) (n m : Nm) (sp : SpD) : Prop := (∀ f ∈ c.fl n, f.s ≠ m.s) ∧ ∀ C, c.icls n = some C → ∃ f fd ps, FnOk P w K mg base (CX P w) k f fd ps (toSp c sp) ∧ Meth K C m.s f ∧ Binds K fd ps []
def MkG (P : Program) (w : World) (K : PySem.W.Frag) (mg : PySem.Str → Option Value) (base : Heap) (c : Cfg) (k : Nat) (n : Nm) (sp : SpD) : Prop := (∃ C f fd ps spI, c.icls n = some C ∧ FnOk P w K mg base (CX P w) k f fd ps (toSp c spI) ∧ Mk K C f ∧ Binds K fd ps [] ∧ mg n.s = some (.ref C) ∧
  ∀ ds M Q E, sp ds M Q E → ∀ x, M x = none → spI (.ref x :: ds) (up M x (.ins n [])) (fun r M' => r = .non ∧ ∃ d2 M2, Frz c (.ref x) M' d2 M2 ∧ Q d2 M2) E) ∨
  (∃ C, c.icls n = some C ∧ PySem.W.makesIn K C = true ∧ PySem.W.findIn K (.ref C) "__init__" = some (some (.builtin "object.__init__")) ∧ PySem.W.keepIn K (.ref C) = true ∧ mg n.s = some (.ref C) ∧ ∀ ds M Q E, sp ds M Q E → ds = [] ∧ ∀ x, M x = none → Q (.ref x) (up M x (.ins n [])))
structure Tok (P : Program) (w : World) (K : PySem.W.Frag) (mg : PySem.Str → Option Value) (base : Heap) (c : Cfg) (T : Tab) (k : Nat) : Prop where
  fn : ∀ n sp, lk T.fn n = some sp → FnG P w K mg base c k n sp
  mt : ∀ n m sp, lk2 T.mt n m = some sp → MtG P w K mg base c k n m sp
  cl : ∀ n sp, lk T.cl n = some sp → MkG P w K mg base c (k - 1) n sp ∧ 0 < k
/-- what a def's ends must give -/
structure KdOk (c : Cfg) (K : KD) (Q : QD) (E : QX) : Prop where
  nx : ∀ env M', K.nx env M' → ∃ d M2, Frz c .non M' d M2 ∧ Q d M2
  rt : ∀ d M', K.rt d M' → ∃ d2 M2, Frz c d M' d2 M2 ∧ Q d2 M2
  bk : ∀ env M', ¬ K.bk env M'
  ct : ∀ env M', ¬ K.ct env M'
  ex : ∀ x env M', K.ex x env M' → ∃ M2, Sub M2 M' ∧ E x M2
theorem fnK_ok {Q : QD} {E : QX} : KdOk c (fnK c Q E) Q E := ⟨fun _ _ h => h, fun _ _ h => h, fun _ _ h => h, fun _ _ h => h, fun _ _ _ h => h⟩
theorem XRep.sub {H : Hp} {M M' : Mm} {cls : Value} {d : Option Addr} {x : XD} (h : XRep c H M cls d x) (s : Sub M' M) : XRep c H M' cls d x := by
  obtain ⟨C, h1, h2, h3⟩ := h
  refine ⟨C, h1, h2, h3.imp id ?_⟩
  rintro ⟨a, vs, e1, e2, e3, e4, ne⟩
  exact ⟨a, vs, e1, e2, s.none e3, e4.view (stp_sub fun _ n => s.none n).view, ne⟩
theorem start_len {N : List PySem.Str} {vs : List V} {ds : List D} (h : vs.length = ds.length) : (L2.start N vs).length = (env0 N.length ds).length := by
  unfold L2.start env0
  simp [h]
theorem sta_start {N : List PySem.Str} {H : Hp} {M : Mm} {vs : List V} {ds : List D} (hc : c.cur = none) (ok : Cells c H M) (r : Reps c H M vs ds) : Sta c (L2.start N vs) H (env0 N.length ds) M :=
  ⟨ok, start_len r.len, fun i d h => by
    unfold env0 at h
    unfold L2.start
    by_cases hi : i < ds.length
    · rw [List.getElem?_append_left (by simpa using hi), List.getElem?_map] at h
      cases e : ds[i]? with
      | none => rw [e] at h; cases h
      | some d' =>
        rw [e] at h
        cases h
        obtain ⟨v, h1, h2⟩ := r.get e
        refine ⟨v, ?_, h2⟩
        rw [List.getElem?_append_left (by rw [List.length_map, r.len]; exact hi), List.getElem?_map, h1]
        rfl
    · rw [List.getElem?_append_right (by simpa using hi), List.getElem?_replicate] at h
      split at h <;> exact (nomatch h), fun i a n dd e => by rw [hc] at e; exact (nomatch e)⟩
/-- THE RULE: a def by its shadow -/
theorem fn_l3 {x qual : PySem.Str} {st : Stmt} {f : Addr} {fd : FuncData} {N ps : List PySem.Str} {b : List SS} {k : Nat} {sp : SpD} (Wk : Wok K mg c T) (F : Fun K x qual st f fd) (S : FnScope N ps (defScope st)) (hm : mSs N (defScope st) b (defBody st) = true) (hok : okSs false none b = true)
    (tb : Tok P w K mg base c T k) (hlen : ∀ ds M Q E, sp ds M Q E → ds.length = ps.length) (hsp : ∀ ds M Q E, sp ds M Q E → ∃ KD, KdOk c KD Q E ∧ wSs T b KD (env0 N.length ds) M) : FnOk P w K mg base (CX P w) (k + 1) f fd ps (toSp c sp) := by
  refine F.okX S (fun vs H Q E h => ?_) fun cdv A outer s H vs Q E hr h => ?_
  · obtain ⟨Z, ds, M, Qd, Ed, r, ok, h, _⟩ := h
    rw [r.len]; exact hlen _ _ _ _ h
  obtain ⟨Z, ds, M, Qd, Ed, r, ok, h, hQ, hE⟩ := h
  obtain ⟨KD, kd, wp⟩ := hsp _ _ _ _ h
  let X := cxOf (L2.CX P w) P w K mg base N qual (defScope st) f cdv A outer s H E
  have hk : Room k X.A := hr
  have co : COk c T N (defScope st) X (fun cls d _ H => E cls d H) := {
    N := rfl, nd := S.nd, sc := rfl, calm := fun _ => ⟨rfl, Wk.cur⟩, K := Wk.eK, bi := Wk.bi,
    tk := takes_of (X := X) (E₁ := fun e' s'' => L2.CX P w outer H s E e' s'') rfl rfl rfl rfl,
    hu := by have := hr.un; show (A.deeper (envOfC qual (defScope st) s.heap.objs.size f cdv)).units + 70 < cLine; omega,
    fn := fun _ n sp e => let ⟨f, fd, ps, h1, h2, h3, h4⟩ := tb.fn n sp e; ⟨f, fd, k, ps, h1, hk, h2, h3, h4⟩,
    mt := fun _ n m sp e C hC => let ⟨f, fd, ps, h1, h2, h3⟩ := (tb.mt n m sp e).2 C hC; ⟨f, fd, k, ps, h1, hk, h2, h3⟩,
    cl := fun _ n sp e => by
      obtain ⟨⟨C, f, fd, ps, spI, h1, h2, h3, h4, h6, h5⟩ | b0, h0⟩ := tb.cl n sp e
      rotate_left
      · exact .inr b0
      exact .inl ⟨C, f, fd, k - 1, ps, spI, h1, h2, by rw [Nat.sub_add_cancel h0]; exact hk, h3, h6, h4, h5⟩,
    gl := Wk.gl, cls := Wk.cls, fl := Wk.fl, flT := Wk.flT, flM := fun n m sp e => (tb.mt n m sp e).1, sub := Wk.sub, own := Wk.own, icl := Wk.icl, clsG := Wk.clsG, isO := Wk.isO, isI := Wk.isI, isX := Wk.isX, exm := Wk.exm,
    xc := fun n fs e => let ⟨h0, C, a, b, d, B, h1, h2, h3, h4, h5, h6⟩ := Wk.xc n fs e; ⟨h0, C, a, b, d, B, h1, h2, h3, h4, raises_own h5 h6⟩,
    cur := fun i a n dd e => by rw [Wk.cur] at e; cases e }
  have so : SOk c T N (defScope st) X (fun cls d _ H => E cls d H) := ⟨co, fun x h => by
    unfold locB at h
    refine ⟨?_, .inl rfl⟩
    split at h
    · rename_i hx; exact .inl hx
    · rename_i hx; exact .inr hx
    · exact (nomatch h), S.kind, fun _ => ⟨rfl, rfl, passes_of (X := X) (E₁ := fun e' s'' => L2.CX P w outer H s E e' s'') rfl⟩⟩
  have hcu : c.cu = none := by unfold Cfg.cu; rw [Wk.cur]; rfl
  refine ⟨_, sndSs (T := T) (N := N) b c (defScope st) (defBody st) hm (by rw [Wk.hot, hcu]; exact hok) X _ so, Z, env0 N.length ds, M, KD, sta_start (c := c.z Z) Wk.cur ok r, wp, ?_⟩
  exact ⟨fun σ' H' env' M' s st q => by
      obtain ⟨d, M2, fz, q⟩ := kd.nx _ _ q
      obtain ⟨ok2, r2, n2⟩ := fz Z H' .non st.cells .non
      exact hQ _ _ _ _ (s.trans (stp_sub n2)) ok2 r2 q,
    fun v H' d M' s ok' r' q => by
      obtain ⟨d2, M2, fz, q⟩ := kd.rt _ _ q
      obtain ⟨ok2, r2, n2⟩ := fz Z H' v ok' r'
      exact hQ _ _ _ _ (s.trans (stp_sub n2)) ok2 r2 q,
    fun _ _ _ _ _ _ q => (kd.bk _ _ q).elim, fun _ _ _ _ _ _ q => (kd.ct _ _ q).elim,
    fun cls d σ' H' x env' M' s st xr q => by
      obtain ⟨M2, sb, q⟩ := kd.ex _ _ _ q
      exact hE _ _ _ _ _ (s.trans (stp_sub fun _ n => sb.none n)) (cells_sub st.cells sb) (xr.sub sb) q⟩
/-- a class by its __init__ -/
def mkI (n : Nm) (c : Cfg) (sp : SpD) : SpD := fun ds' M' Q' E => ∃ x ds M Q, ds' = .ref x :: ds ∧ M x = none ∧ M' = up M x (.ins n []) ∧ sp ds M Q E ∧ ∀ r M2, r = .non → (∃ d2 M3, Frz c (.ref x) M2 d2 M3 ∧ Q d2 M3) → Q' r M2
def mkK (c : Cfg) (x : Addr) (Q : QD) (E : QX) : KD where
  nx := fun _ M => ∃ d2 M3, Frz c (.ref x) M d2 M3 ∧ Q d2 M3
  rt := fun _ _ => False
  ex := fun y _ M => ∃ M', Sub M' M ∧ E y M'
theorem mkK_ok {n : Nm} {sp : SpD} {ds' : List D} {M' : Mm} {Q' : QD} {E : QX} {x : Addr} {Q : QD} (h : ∀ r M2, r = .non → (∃ d2 M3, Frz c (.ref x) M2 d2 M3 ∧ Q d2 M3) → Q' r M2) : KdOk c (mkK c x Q E) Q' E :=
  ⟨fun env M' q => ⟨.non, M', Frz.sub Sub.refl, h _ _ rfl q⟩, fun _ _ q => q.elim, fun _ _ h => h, fun _ _ h => h, fun _ _ _ h => h⟩
theorem mk_use {n : Nm} {sp : SpD} : ∀ ds M Q E, sp ds M Q E → ∀ x, M x = none → mkI n c sp (.ref x :: ds) (up M x (.ins n [])) (fun r M' => r = .non ∧ ∃ d2 M2, Frz c (.ref x) M' d2 M2 ∧ Q d2 M2) E :=
  fun ds M Q E h x hx => ⟨x, ds, M, Q, rfl, hx, rfl, h, fun r M2 e q => ⟨e, q⟩⟩
end
/-! ### what is made, read as data from now on -/
section
variable {c : Cfg} {H : Hp} {M M' : Mm}
def fz : Nat → Mm → D → D
  | 0, _, d => d
  | n + 1, M, .ref a => match M a with
    | some (.lst ds) => .lst (ds.map (fz n M))
    | some (.dct t kvs) => .dct t (kvs.map fun p => (p.1, fz n M p.2))
    | some (.ins k fs) => .ins k (fs.map fun p => (p.1, fz n M p.2))
    | none => .ref a
  | n + 1, M, .lst ds => .lst (ds.map (fz n M))
  | n + 1, M, .tup ds => .tup (ds.map (fz n M))
  | n + 1, M, .dct t kvs => .dct t (kvs.map fun p => (p.1, fz n M p.2))
  | n + 1, M, .ins k fs => .ins k (fs.map fun p => (p.1, fz n M p.2))
  | _ + 1, _, d => d
/-- the places that are read so -/
def rf : Nat → Mm → D → List Addr
  | 0, _, _ => []
  | n + 1, M, .ref a => match M a with
    | some (.lst ds) => a :: ds.flatMap (rf n M)
    | some (.dct _ kvs) => a :: kvs.flatMap fun p => rf n M p.2
    | some (.ins _ fs) => a :: fs.flatMap fun p => rf n M p.2
    | none => []
  | n + 1, M, .lst ds => ds.flatMap (rf n M)
  | n + 1, M, .tup ds => ds.flatMap (rf n M)
  | n + 1, M, .dct _ kvs => kvs.flatMap fun p => rf n M p.2
  | n + 1, M, .ins _ fs => fs.flatMap fun p => rf n M p.2
  | _ + 1, _, _ => []
theorem Reps.fzL {n : Nat} (ih : ∀ v d, Rep c H M v d → (∀ a ∈ rf n M d, M' a = none) → Rep c H M' v (fz n M d)) : ∀ {vs : List V} {ds : List D}, Reps c H M vs ds → (∀ a ∈ ds.flatMap (rf n M), M' a = none) → Reps c H M' vs (ds.map (fz n M))
  | _, _, .nil, _ => .nil
  | _, _, .cons r q, h => .cons (ih _ _ r fun a ha => h a (by simp only [List.flatMap_cons, List.mem_append]; exact .inl ha)) (Reps.fzL ih q fun a ha => h a (by simp only [List.flatMap_cons, List.mem_append]; exact .inr ha))
theorem RepK.fzL {n : Nat} (ih : ∀ v d, Rep c H M v d → (∀ a ∈ rf n M d, M' a = none) → Rep c H M' v (fz n M d)) : ∀ {vs : List (Key × V)} {ds : List (D × D)}, RepK c H M vs ds → (∀ a ∈ ds.flatMap (fun p => rf n M p.2), M' a = none) → RepK c H M' vs (ds.map fun p => (p.1, fz n M p.2))
  | _, _, .nil, _ => .nil
  | _, _, .cons r q, h => .cons (ih _ _ r fun a ha => h a (by simp only [List.flatMap_cons, List.mem_append]; exact .inl ha)) (RepK.fzL ih q fun a ha => h a (by simp only [List.flatMap_cons, List.mem_append]; exact .inr ha))
theorem RepT.fzL {n : Nat} (ih : ∀ v d, Rep c H M v d → (∀ a ∈ rf n M d, M' a = none) → Rep c H M' v (fz n M d)) : ∀ {vs : List (List Key × V)} {ds : List (D × D)}, RepT c H M vs ds → (∀ a ∈ ds.flatMap (fun p => rf n M p.2), M' a = none) → RepT c H M' vs (ds.map fun p => (p.1, fz n M p.2))
  | _, _, .nil, _ => .nil
  | _, _, .cons z r q, h => .cons z (ih _ _ r fun a ha => h a (by simp only [List.flatMap_cons, List.mem_append]; exact .inl ha)) (RepT.fzL ih q fun a ha => h a (by simp only [List.flatMap_cons, List.mem_append]; exact .inr ha))
theorem RepF.fzL {n : Nat} (ih : ∀ v d, Rep c H M v d → (∀ a ∈ rf n M d, M' a = none) → Rep c H M' v (fz n M d)) : ∀ {vs : List (PySem.Str × V)} {ds : List (Nm × D)}, RepF c H M vs ds → (∀ a ∈ ds.flatMap (fun p => rf n M p.2), M' a = none) → RepF c H M' vs (ds.map fun p => (p.1, fz n M p.2))
  | _, _, .nil, _ => .nil
  | _, _, .cons r q, h => .cons (ih _ _ r fun a ha => h a (by simp only [List.flatMap_cons, List.mem_append]; exact .inl ha)) (RepF.fzL ih q fun a ha => h a (by simp only [List.flatMap_cons, List.mem_append]; exact .inr ha))
theorem keys_fz {c : Nm} {n : Nat} {M : Mm} {fs : List (Nm × D)} {l : List Nm} (k : ∀ p ∈ fs, p.1 ∈ l) : ∀ p ∈ fs.map fun p => (p.1, fz n M p.2), p.1 ∈ l := fun p hp => by
  obtain ⟨q, hq, rfl⟩ := List.mem_map.mp hp
  exact k q hq
theorem Rep.fz (ok : Cells c H M) (sb : Sub M' M) : ∀ (n : Nat) (v : V) (d : D), Rep c H M v d → (∀ a ∈ rf n M d, M' a = none) → Rep c H M' v (fz n M d)
  | 0, v, d, r, _ => r.stp (stp_sub fun _ n => sb.none n)
  | n + 1, v, d, r, h => by
    have ih := Rep.fz ok sb n
    have fr : ∀ {a}, Fr c M a → Fr c M' a := fun q => ⟨sb.none q.1, q.2⟩
    cases r with
    | lst h1 m z q => exact .lst h1 (fr m) z (q.fzL ih h)
    | tup h1 m z q => exact .tup h1 (fr m) z (q.fzL ih h)
    | dK h1 m z q => exact .dK h1 (fr m) z (q.fzL ih h)
    | dT h1 m z q => exact .dT h1 (fr m) z (q.fzL ih h)
    | ins h1 m z k q => exact .ins h1 (fr m) z (keys_fz (c := .law) k) (q.fzL ih h)
    | ref a =>
      cases e : M a with
      | none => unfold L3.fz; rw [e]; exact .ref a
      | some x =>
        have hz : ¬ c.Z a := fun z => by have := (ok.z a z).2; rw [e] at this; cases this
        have hc := ok.at' a x e
        unfold L3.fz
        unfold rf at h
        rw [e] at h ⊢
        cases x with
        | lst ds => cases hc with
          | lst h1 z q => exact .lst h1 ⟨h a List.mem_cons_self, hz⟩ z (q.fzL ih fun b hb => h b (List.mem_cons_of_mem _ hb))
        | dct t kvs => cases hc with
          | dK h1 z q => exact .dK (.inl h1) ⟨h a List.mem_cons_self, hz⟩ z (q.fzL ih fun b hb => h b (List.mem_cons_of_mem _ hb))
          | dT h1 z q => exact .dT (.inl h1) ⟨h a List.mem_cons_self, hz⟩ z (q.fzL ih fun b hb => h b (List.mem_cons_of_mem _ hb))
        | ins k fs => cases hc with
          | ins h1 z kk q => exact .ins h1 ⟨h a List.mem_cons_self, hz⟩ z (keys_fz (c := .law) kk) (q.fzL ih fun b hb => h b (List.mem_cons_of_mem _ hb))
    | roL h1 z q => exact .roL (h1.imp (fun w => ⟨w.1, fr w.2⟩) id) z (q.stp (stp_sub fun _ n => sb.none n))
    | roT h1 z q => exact .roT h1 z (q.stp (stp_sub fun _ n => sb.none n))
    | non => exact .non
    | bl b => exact .bl b
    | int b => exact .int b
    | str b => exact .str b
    | exc a m fs => exact .exc a m fs
theorem Frz.deep {d : D} (n : Nat) (sb : Sub M' M) (h : ∀ a ∈ rf n M d, M' a = none) : Frz c d M (L3.fz n M d) M' := fun Z H v ok r =>
  ⟨cells_sub ok sb, r.fz ok sb n _ _ h, fun _ q => sb.none q⟩
end
end L3

set_option maxRecDepth 100000
namespace L3
open PySem L2
@[simp] theorem wE_non {T : Tab} {env : Env} {M : Mm} {Q : QD} {E : QX} : wE T .non env M Q E = (Q .non M) := rfl
@[simp] theorem wE_bl {T : Tab} {b : Bool} {env : Env} {M : Mm} {Q : QD} {E : QX} : wE T (.bl b) env M Q E = (Q (.bl b) M) := rfl
@[simp] theorem wE_int {T : Tab} {i : Int} {env : Env} {M : Mm} {Q : QD} {E : QX} : wE T (.int i) env M Q E = (Q (.int i) M) := rfl
@[simp] theorem wE_str {T : Tab} {x : PySem.Str} {env : Env} {M : Mm} {Q : QD} {E : QX} : wE T (.str x) env M Q E = (Q (.str x) M) := rfl
@[simp] theorem wE_var {T : Tab} {i : Nat} {env : Env} {M : Mm} {Q : QD} {E : QX} : wE T (.var i) env M Q E = (obn (varE env i) fun d => Q d M) := rfl
@[simp] theorem wE_gl {T : Tab} {n : Nm} {env : Env} {M : Mm} {Q : QD} {E : QX} : wE T (.gl n) env M Q E = (obn (lk T.gl n) fun d => Q d M) := rfl
@[simp] theorem wE_bin {T : Tab} {op : Operator} {a : SE} {b : SE} {env : Env} {M : Mm} {Q : QD} {E : QX} : wE T (.bin op a b) env M Q E = (wE T a env M (fun x M1 => wE T b env M1 (fun y M2 => binD false op x y M2 Q) E) E) := rfl
@[simp] theorem wE_cat {T : Tab} {a : SE} {b : SE} {env : Env} {M : Mm} {Q : QD} {E : QX} : wE T (.cat a b) env M Q E = (wE T a env M (fun x M1 => wE T b env M1 (fun y M2 => binD true .Add x y M2 Q) E) E) := rfl
@[simp] theorem wE_neg {T : Tab} {a : SE} {env : Env} {M : Mm} {Q : QD} {E : QX} : wE T (.neg a) env M Q E = (wE T a env M (fun x M1 => obn (negD x) fun i => Q (.int i) M1) E) := rfl
@[simp] theorem wE_not {T : Tab} {a : SE} {env : Env} {M : Mm} {Q : QD} {E : QX} : wE T (.not a) env M Q E = (wE T a env M (fun x M1 => obn (truD M1 x) fun b => Q (.bl (!b)) M1) E) := rfl
@[simp] theorem wE_bop {T : Tab} {k : Bool} {es : List SE} {env : Env} {M : Mm} {Q : QD} {E : QX} : wE T (.bop k es) env M Q E = (wBop T k es env M Q E) := rfl
@[simp] theorem wE_cmp {T : Tab} {op : CmpOp} {a : SE} {b : SE} {env : Env} {M : Mm} {Q : QD} {E : QX} : wE T (.cmp op a b) env M Q E = (wE T a env M (fun x M1 => wE T b env M1 (fun y M2 => cmpD op x y M2 fun r => Q (.bl r) M2) E) E) := rfl
@[simp] theorem wE_chain {T : Tab} {o1 : CmpOp} {o2 : CmpOp} {a : SE} {b : SE} {c : SE} {env : Env} {M : Mm} {Q : QD} {E : QX} : wE T (.chain o1 o2 a b c) env M Q E = (wE T a env M (fun x M1 => wE T b env M1 (fun y M2 => cmpD o1 x y M2 fun r =>
      br r (wE T c env M2 (fun z M3 => cmpD o2 y z M3 fun r2 => Q (.bl r2) M3) E) (Q (.bl false) M2)) E) E) := rfl
@[simp] theorem wE_ix {T : Tab} {a : SE} {i : SE} {env : Env} {M : Mm} {Q : QD} {E : QX} : wE T (.ix a i) env M Q E = (wE T a env M (fun x M1 => wE T i env M1 (fun y M2 => ixD x y M2 fun v => Q v M2) E) E) := rfl
@[simp] theorem wE_sl {T : Tab} {a : SE} {lo : SE} {hi : SE} {env : Env} {M : Mm} {Q : QD} {E : QX} : wE T (.sl a lo hi) env M Q E = (wE T a env M (fun x M1 => wE T lo env M1 (fun y M2 => obn (endD lo y) fun l => wE T hi env M2 (fun z M3 => obn (endD hi z) fun h => slD false x l h M3 Q) E) E) E) := rfl
@[simp] theorem wE_rev {T : Tab} {m : Bool} {a : SE} {env : Env} {M : Mm} {Q : QD} {E : QX} : wE T (.rev m a) env M Q E = (wE T a env M (fun x M1 => revD m x M1 Q) E) := rfl
@[simp] theorem wE_lrng {T : Tab} {m : Bool} {k : ItK} {es : List SE} {env : Env} {M : Mm} {Q : QD} {E : QX} : wE T (.lrng m k es) env M Q E = (wEs T es env M (fun ds M1 => obn (itD k ds M1) fun xs => cnd (xs.length ≤ 1000000) (alL m xs M1 Q)) E) := rfl
@[simp] theorem wE_cmpK {T : Tab} {ne : Bool} {a : SE} {b : SE} {env : Env} {M : Mm} {Q : QD} {E : QX} : wE T (.cmpK ne a b) env M Q E = (wE T a env M (fun x M1 => wE T b env M1 (fun y M2 => eqK x y M2 (Q (.bl (!ne)) M2)) E) E) := rfl
@[simp] theorem wE_cmpS {T : Tab} {ne : Bool} {a : SE} {b : SE} {env : Env} {M : Mm} {Q : QD} {E : QX} : wE T (.cmpS ne a b) env M Q E = (wE T a env M (fun x M1 => wE T b env M1 (fun y M2 => eqS x y M2 (Q (.bl (!ne)) M2)) E) E) := rfl
@[simp] theorem wE_fld {T : Tab} {a : SE} {f : Nm} {env : Env} {M : Mm} {Q : QD} {E : QX} : wE T (.fld a f) env M Q E = (wE T a env M (fun x M1 => obn (fldD M1 x f) fun v => Q v M1) E) := rfl
@[simp] theorem wE_lst {T : Tab} {m : Bool} {es : List SE} {env : Env} {M : Mm} {Q : QD} {E : QX} : wE T (.lst m es) env M Q E = (wEs T es env M (fun ds M1 => cnd (ds.length ≤ 1000) (alL m ds M1 Q)) E) := rfl
@[simp] theorem wE_tup {T : Tab} {es : List SE} {env : Env} {M : Mm} {Q : QD} {E : QX} : wE T (.tup es) env M Q E = (wEs T es env M (fun ds M1 => cnd (ds.length ≤ 1000) (Q (.tup ds) M1)) E) := rfl
@[simp] theorem wE_dnew {T : Tab} {m : Bool} {t : Bool} {env : Env} {M : Mm} {Q : QD} {E : QX} : wE T (.dnew m t) env M Q E = (alK m t [] M Q) := rfl
@[simp] theorem wE_dct {T : Tab} {m : Bool} {ks : List PySem.Str} {vs : List SE} {env : Env} {M : Mm} {Q : QD} {E : QX} : wE T (.dct m ks vs) env M Q E = (wEs T vs env M (fun ds M1 => alK m false ((ks.map D.str).zip ds) M1 Q) E) := rfl
@[simp] theorem wE_comp {T : Tab} {m : Bool} {tg : Tg} {k : ItK} {es : List SE} {c : SE} {e : SE} {env : Env} {M : Mm} {Q : QD} {E : QX} : wE T (.comp m tg k es c e) env M Q E = (wEs T es env M (fun ds M1 => compQ (fun items M' => itD k ds M' = some items) (fun env M Q => wE T c env M Q (fun _ _ => False)) (fun env M Q => wE T e env M Q (fun _ _ => False)) tg env (itD k ds M1) M1 fun acc M2 => alL m acc M2 Q) E) := rfl
@[simp] theorem wE_call {T : Tab} {m : Bool} {f : Nm} {es : List SE} {env : Env} {M : Mm} {Q : QD} {E : QX} : wE T (.call m f es) env M Q E = (obn (lk T.fn f) fun sp => wEs T es env M (fun ds M1 => ap sp ds M1 (fun d M2 => frz1 m d M2 Q) E) E) := rfl
@[simp] theorem wE_mk {T : Tab} {m : Bool} {c : Nm} {es : List SE} {env : Env} {M : Mm} {Q : QD} {E : QX} : wE T (.mk m c es) env M Q E = (obn (lk T.cl c) fun sp => wEs T es env M (fun ds M1 => ap sp ds M1 (fun d M2 => frz1 m d M2 Q) E) E) := rfl
@[simp] theorem wE_meth {T : Tab} {m : Bool} {o : SE} {f : Nm} {es : List SE} {env : Env} {M : Mm} {Q : QD} {E : QX} : wE T (.meth m o f es) env M Q E = (wE T o env M (fun x M1 => obn (insD M1 x) fun p => obn (lk2 T.mt p.1 f) fun sp => wEs T es env M1 (fun ds M2 => ap sp (x :: ds) M2 (fun d M3 => frz1 m d M3 Q) E) E) E) := rfl
@[simp] theorem wE_bi {T : Tab} {m : Bool} {f : Bi} {es : List SE} {env : Env} {M : Mm} {Q : QD} {E : QX} : wE T (.bi m f es) env M Q E = (wEs T es env M (fun ds M1 => biD m f ds M1 Q) E) := rfl
@[simp] theorem wE_bm {T : Tab} {m : Bool} {o : SE} {f : Bm} {es : List SE} {env : Env} {M : Mm} {Q : QD} {E : QX} : wE T (.bm m o f es) env M Q E = (wE T o env M (fun x M1 => cnd (rcvB f M1 x = true) (wEs T es env M1 (fun ds M2 => bmD m f x ds M2 Q) E)) E) := rfl
@[simp] theorem wE_isi {T : Tab} {e : SE} {tp : Bool} {ts : List Ty1} {env : Env} {M : Mm} {Q : QD} {E : QX} : wE T (.isi e tp ts) env M Q E = (cnd (ownOk T ts = true) (wE T e env M (fun x M1 => obn (isA T M1 x ts) fun b => Q (.bl b) M1) E)) := rfl
@[simp] theorem wE_isx {T : Tab} {i : Nat} {tp : Bool} {ts : List Ty1} {env : Env} {M : Mm} {Q : QD} {E : QX} : wE T (.isx i tp ts) env M Q E = (cnd (ownOk T ts = true) (obn (excE env i) fun p => cnd (p.2 = []) (obn (anyT (isXT T p.1) ts) fun b => Q (.bl b) M))) := rfl
@[simp] theorem wE_fldx {T : Tab} {i : Nat} {f : Nm} {env : Env} {M : Mm} {Q : QD} {E : QX} : wE T (.fldx i f) env M Q E = (obn (excE env i) fun p => obn (getF p.2 f) fun v => Q v M) := rfl
@[simp] theorem wEs_nil {T : Tab} {env : Env} {M : Mm} {Q : List D → Mm → Prop} {E : QX} : wEs T [] env M Q E = (Q [] M) := rfl
@[simp] theorem wEs_cons {T : Tab} {e : SE} {r : List SE} {env : Env} {M : Mm} {Q : List D → Mm → Prop} {E : QX} : wEs T (e :: r) env M Q E = (wE T e env M (fun d M1 => wEs T r env M1 (fun ds M2 => Q (d :: ds) M2) E) E) := rfl
@[simp] theorem wBop_nil {T : Tab} {k : Bool} {env : Env} {M : Mm} {Q : QD} {E : QX} : wBop T k [] env M Q E = (False) := rfl
@[simp] theorem wBop_one {T : Tab} {k : Bool} {e : SE} {env : Env} {M : Mm} {Q : QD} {E : QX} : wBop T k [e] env M Q E = (wE T e env M Q E) := rfl
@[simp] theorem wBop_cons {T : Tab} {k : Bool} {e : SE} {e' : SE} {r : List SE} {env : Env} {M : Mm} {Q : QD} {E : QX} : wBop T k (e :: e' :: r) env M Q E = (wE T e env M (fun x M1 => obn (truD M1 x) fun b => br (b == k) (wBop T k (e' :: r) env M1 Q E) (Q x M1)) E) := rfl
@[simp] theorem wS_asg {T : Tab} {i : Nat} {e : SE} {K : KD} {env : Env} {M : Mm} : wS T (.asg i e) K env M = (wE T e env M (fun d M' => K.nx (env.set i (some d)) M') (fun x M' => K.ex x env M')) := rfl
@[simp] theorem wS_asgT {T : Tab} {is : List Nat} {e : SE} {K : KD} {env : Env} {M : Mm} : wS T (.asgT is e) K env M = (wE T e env M (fun d M' => obn (tupD d) fun ds => obn (setAll is ds env) fun env' => K.nx env' M') (fun x M' => K.ex x env M')) := rfl
@[simp] theorem wS_asgL {T : Tab} {is : List Nat} {e : SE} {K : KD} {env : Env} {M : Mm} : wS T (.asgL is e) K env M = (wE T e env M (fun d M' => obn (lstD M' d) fun ds => obn (setAll is ds env) fun env' => K.nx env' M') (fun x M' => K.ex x env M')) := rfl
@[simp] theorem wS_par {T : Tab} {is : List Nat} {es : List SE} {K : KD} {env : Env} {M : Mm} : wS T (.par is es) K env M = (wEs T es env M (fun ds M' => obn (setAll is ds env) fun env' => K.nx env' M') (fun x M' => K.ex x env M')) := rfl
@[simp] theorem wS_asgF {T : Tab} {o : SE} {f : Nm} {e : SE} {K : KD} {env : Env} {M : Mm} : wS T (.asgF o f e) K env M = (wE T e env M (fun d M1 => wE T o env M1 (fun x M2 => obn (insR M2 x) fun p => cnd (p.2.2.length < 1000) (obn (lk T.fl p.2.1) fun l => cnd (f ∈ l) (K.nx env (up M2 p.1 (.ins p.2.1 (putF p.2.2 f d)))))) (fun x M' => K.ex x env M')) (fun x M' => K.ex x env M')) := rfl
@[simp] theorem wS_asgI {T : Tab} {o : SE} {i : SE} {e : SE} {K : KD} {env : Env} {M : Mm} : wS T (.asgI o i e) K env M = (wE T e env M (fun d M1 => wE T o env M1 (fun x M2 => wE T i env M2 (fun y M3 => setI x y d M3 fun M' => K.nx env M') (fun x M' => K.ex x env M')) (fun x M' => K.ex x env M')) (fun x M' => K.ex x env M')) := rfl
@[simp] theorem wS_aug {T : Tab} {i : Nat} {op : Operator} {e : SE} {K : KD} {env : Env} {M : Mm} : wS T (.aug i op e) K env M = (obn (varE env i) fun x => wE T e env M (fun y M1 => augD op x y M1 fun z M' => K.nx (env.set i (some z)) M') (fun x M' => K.ex x env M')) := rfl
@[simp] theorem wS_augF {T : Tab} {o : SE} {f : Nm} {op : Operator} {e : SE} {K : KD} {env : Env} {M : Mm} : wS T (.augF o f op e) K env M = (wE T o env M (fun x M1 => obn (insR M1 x) fun p => cnd (p.2.2.length < 1000) (obn (getF p.2.2 f) fun d =>
      wE T e env M1 (fun y M2 => cnd (M2 p.1 = some (.ins p.2.1 p.2.2)) (augD op d y M2 fun z M' => K.nx env (up M' p.1 (.ins p.2.1 (putF p.2.2 f z))))) (fun x M' => K.ex x env M'))) (fun x M' => K.ex x env M')) := rfl
@[simp] theorem wS_augI {T : Tab} {o : SE} {i : SE} {op : Operator} {e : SE} {K : KD} {env : Env} {M : Mm} : wS T (.augI o i op e) K env M = (False) := rfl
@[simp] theorem wS_exp {T : Tab} {e : SE} {K : KD} {env : Env} {M : Mm} : wS T (.exp e) K env M = (wE T e env M (fun _ M' => K.nx env M') (fun x M' => K.ex x env M')) := rfl
@[simp] theorem wS_ret {T : Tab} {e : SE} {K : KD} {env : Env} {M : Mm} : wS T (.ret e) K env M = (wE T e env M K.rt (fun x M' => K.ex x env M')) := rfl
@[simp] theorem wS_retN {T : Tab} {K : KD} {env : Env} {M : Mm} : wS T .retN K env M = (K.rt .non M) := rfl
@[simp] theorem wS_ifs {T : Tab} {c : SE} {a : List SS} {b : List SS} {K : KD} {env : Env} {M : Mm} : wS T (.ifs c a b) K env M = (wE T c env M (fun d M' => obn (truD M' d) fun t => br t (wSs T a K env M') (wSs T b K env M')) (fun x M' => K.ex x env M')) := rfl
@[simp] theorem wS_whl {T : Tab} {c : SE} {b : List SS} {K : KD} {env : Env} {M : Mm} : wS T (.whl c b) K env M = (whQ (fun env M Q => wE T c env M Q (fun x M' => K.ex x env M')) (fun K env M => wSs T b K env M) K env M) := rfl
@[simp] theorem wS_fors {T : Tab} {tg : Tg} {k : ItK} {es : List SE} {b : List SS} {K : KD} {env : Env} {M : Mm} : wS T (.fors tg k es b) K env M = (wEs T es env M (fun ds M1 => forQ (fun items M' => itD k ds M' = some items) (fun K env M => wSs T b K env M) tg K (itD k ds M1) env M1) (fun x M' => K.ex x env M')) := rfl
@[simp] theorem wS_raise {T : Tab} {c : Nm} {es : List SE} {K : KD} {env : Env} {M : Mm} : wS T (.raise c es) K env M = (wEs T es env M (fun ds M' => obn (lk T.xc c) fun fs => K.ex ⟨c, fs.zip ds⟩ env M') (fun x M' => K.ex x env M')) := rfl
@[simp] theorem wS_tryx {T : Tab} {b : List SS} {c : Nm} {n : Option Nat} {h : List SS} {K : KD} {env : Env} {M : Mm} : wS T (.tryx b c n h) K env M = (cnd ((lk T.sub c).isSome = true) (wSs T b { nx := K.nx, rt := K.rt, bk := K.bk, ct := K.ct, ex := (fun x env' M' => obn (lk T.sub x.c) fun l => br (decide (c ∈ l)) (match n with
        | some i => cnd (i < env'.length) (wSs T h (K.out i).sui (env'.set i (some (.exc x.c x.fs))) M')
        | none => wSs T h K.sui env' M') (K.ex x env' M')) } env M)) := rfl
@[simp] theorem wS_pass {T : Tab} {K : KD} {env : Env} {M : Mm} : wS T .pass K env M = (K.nx env M) := rfl
@[simp] theorem wS_brk {T : Tab} {K : KD} {env : Env} {M : Mm} : wS T .brk K env M = (K.bk env M) := rfl
@[simp] theorem wS_cont {T : Tab} {K : KD} {env : Env} {M : Mm} : wS T .cont K env M = (K.ct env M) := rfl
@[simp] theorem wS_frz {T : Tab} {i : Nat} {K : KD} {env : Env} {M : Mm} : wS T (.frz i) K env M = (frzQ i env M K.nx) := rfl
@[simp] theorem wSs_nil {T : Tab} {K : KD} {env : Env} {M : Mm} : wSs T [] K env M = (K.nx env M) := rfl
@[simp] theorem wSs_cons {T : Tab} {s : SS} {r : List SS} {K : KD} {env : Env} {M : Mm} : wSs T (s :: r) K env M = (wS T s { nx := fun env M => wSs T r K env M, rt := K.rt, bk := K.bk, ct := K.ct, ex := K.ex } env M) := rfl
@[simp] theorem binD_Add {m : Bool} {x y : D} {M : Mm} {Q : QD} : binD m .Add x y M Q = addD m x y M Q := rfl
@[simp] theorem binD_Sub {m : Bool} {i j : Int} {M : Mm} {Q : QD} : binD m .Sub (.int i) (.int j) M Q = Q (.int (i - j)) M := rfl
@[simp] theorem binD_Mult {m : Bool} {i j : Int} {M : Mm} {Q : QD} : binD m .Mult (.int i) (.int j) M Q = cnd (CMul i j ∨ CMulW i j) (Q (.int (i * j)) M) := rfl
@[simp] theorem binD_FloorDiv {m : Bool} {i j : Int} {M : Mm} {Q : QD} : binD m .FloorDiv (.int i) (.int j) M Q = cnd (CDivW i j) (Q (.int (i / j)) M) := rfl
@[simp] theorem binD_Mod {m : Bool} {i j : Int} {M : Mm} {Q : QD} : binD m .Mod (.int i) (.int j) M Q = cnd (0 < j) (Q (.int (i % j)) M) := rfl
@[simp] theorem binD_Pow {m : Bool} {i j : Int} {M : Mm} {Q : QD} : binD m .Pow (.int i) (.int j) M Q = cnd (CPow i j) (Q (.int (i ^ j.toNat)) M) := rfl
@[simp] theorem addD_int {m : Bool} {i j : Int} {M : Mm} {Q : QD} : addD m (.int i) (.int j) M Q = Q (.int (i + j)) M := rfl
@[simp] theorem addD_str {m : Bool} {i j : PySem.Str} {M : Mm} {Q : QD} : addD m (.str i) (.str j) M Q = cnd (i.length + j.length ≤ sizeLine) (Q (.str (i ++ j)) M) := rfl
@[simp] theorem addD_tup {m : Bool} {i j : List D} {M : Mm} {Q : QD} : addD m (.tup i) (.tup j) M Q = cnd (i.length + j.length ≤ sizeLine) (Q (.tup (i ++ j)) M) := rfl
@[simp] theorem addD_lst {m : Bool} {i : List D} {y : D} {M : Mm} {Q : QD} : addD m (.lst i) y M Q = catD m (.lst i) y M Q := rfl
@[simp] theorem addD_ref {m : Bool} {i : Addr} {y : D} {M : Mm} {Q : QD} : addD m (.ref i) y M Q = catD m (.ref i) y M Q := rfl
@[simp] theorem eqQ_int {i j : Int} {M : Mm} {Q : Bool → Prop} : eqQ (.int i) (.int j) M Q = Q (i == j) := by simp [eqQ, rs, pu, eqv, cnd]
@[simp] theorem cmpD_Eq {x y : D} {M : Mm} {Q : Bool → Prop} : cmpD .Eq x y M Q = eqQ x y M Q := rfl
@[simp] theorem cmpD_NotEq {x y : D} {M : Mm} {Q : Bool → Prop} : cmpD .NotEq x y M Q = eqQ x y M fun b => Q (!b) := rfl
@[simp] theorem cmpD_Lt {i j : Int} {M : Mm} {Q : Bool → Prop} : cmpD .Lt (.int i) (.int j) M Q = Q (decide (i < j)) := rfl
@[simp] theorem cmpD_LtE {i j : Int} {M : Mm} {Q : Bool → Prop} : cmpD .LtE (.int i) (.int j) M Q = Q (decide (i ≤ j)) := rfl
@[simp] theorem cmpD_Gt {i j : Int} {M : Mm} {Q : Bool → Prop} : cmpD .Gt (.int i) (.int j) M Q = Q (decide (j < i)) := rfl
@[simp] theorem cmpD_GtE {i j : Int} {M : Mm} {Q : Bool → Prop} : cmpD .GtE (.int i) (.int j) M Q = Q (decide (j ≤ i)) := rfl
@[simp] theorem cmpD_In {x y : D} {M : Mm} {Q : Bool → Prop} : cmpD .In x y M Q = inQ x y M Q := rfl
@[simp] theorem cmpD_NotIn {x y : D} {M : Mm} {Q : Bool → Prop} : cmpD .NotIn x y M Q = inQ x y M fun b => Q (!b) := rfl
@[simp] theorem cmpD_Is {x y : D} {M : Mm} {Q : Bool → Prop} : cmpD .Is x y M Q = isQ x y Q := rfl
@[simp] theorem cmpD_IsNot {x y : D} {M : Mm} {Q : Bool → Prop} : cmpD .IsNot x y M Q = isQ x y fun b => Q (!b) := rfl
@[simp] theorem truD_bl {b : Bool} {M : Mm} : truD M (.bl b) = some b := rfl
@[simp] theorem truD_int {b : Int} {M : Mm} : truD M (.int b) = some (b != 0) := rfl
@[simp] theorem biD_len {m : Bool} {x : D} {M : Mm} {Q : QD} : biD m .len [x] M Q = obn (lenD M x) fun n => Q (.int n) M := rfl
@[simp] theorem biD_int_int {m : Bool} {x : Int} {M : Mm} {Q : QD} : biD m .int [.int x] M Q = Q (.int x) M := rfl
@[simp] theorem biD_int_bl {m : Bool} {x : Bool} {M : Mm} {Q : QD} : biD m .int [.bl x] M Q = Q (.int (if x then 1 else 0)) M := rfl
@[simp] theorem biD_min2 {m : Bool} {i j : Int} {M : Mm} {Q : QD} : biD m .min [.int i, .int j] M Q = Q (.int (if j < i then j else i)) M := rfl
@[simp] theorem biD_max2 {m : Bool} {i j : Int} {M : Mm} {Q : QD} : biD m .max [.int i, .int j] M Q = Q (.int (if j > i then j else i)) M := rfl
def lenC : Option Cell → Option Int
  | some (.lst ds) => some (ds.length : Int)
  | some (.dct _ ds) => some (ds.length : Int)
  | _ => none
@[simp] theorem lenD_ref {a : Addr} {M : Mm} : lenD M (.ref a) = lenC (M a) := by
  cases h : M a with
  | none => simp [lenD, dctD, seqD, lenC, h]
  | some x => cases x <;> simp [lenD, dctD, seqD, lenC, h]
@[simp] theorem lenC_lst {ds : List D} : lenC (some (.lst ds)) = some (ds.length : Int) := rfl
@[simp] theorem lenC_dct {t : Bool} {ds : List (D × D)} : lenC (some (.dct t ds)) = some (ds.length : Int) := rfl
def ixC (o : Option Cell) (n : D) (Q : D → Prop) : Prop :=
  match o with
  | some (.lst ds) => match n with
    | .int i => obn (atI ds i) Q
    | _ => False
  | some (.dct t ds) => cnd (keyOk t n = true) (obn (getK ds n) Q)
  | _ => False
@[simp] theorem ixD_ref {a : Addr} {M : Mm} {n : D} {Q : D → Prop} : ixD (.ref a) n M Q = ixC (M a) n Q := by
  cases h : M a with
  | none => cases n <;> simp [ixD, dctD, seqD, ixC, h, obn]
  | some x => cases x <;> cases n <;> simp [ixD, dctD, seqD, ixC, h, obn]
@[simp] theorem ixC_lst {ds : List D} {i : Int} {Q : D → Prop} : ixC (some (.lst ds)) (.int i) Q = obn (atI ds i) Q := rfl
@[simp] theorem ixC_dct {t : Bool} {ds : List (D × D)} {n : D} {Q : D → Prop} : ixC (some (.dct t ds)) n Q = cnd (keyOk t n = true) (obn (getK ds n) Q) := rfl
def setC (o : Option Cell) (i d : D) (Q : Cell → Prop) : Prop :=
  match o with
  | some (.lst ds) => match i with
    | .int n => obn (ixN ds.length n) fun k => Q (.lst (ds.set k d))
    | _ => False
  | some (.dct t ds) => cnd (keyOk t i = true) (cnd (ds.length < sizeLine) (Q (.dct t (putK ds i d))))
  | _ => False
@[simp] theorem setI_ref {a : Addr} {M : Mm} {i d : D} {Q : Mm → Prop} : setI (.ref a) i d M Q = setC (M a) i d fun x => Q (up M a x) := by
  cases h : M a with
  | none => cases i <;> simp [setI, setC, h]
  | some x => cases x <;> cases i <;> simp [setI, setC, h]
@[simp] theorem setC_lst {ds : List D} {n : Int} {d : D} {Q : Cell → Prop} : setC (some (.lst ds)) (.int n) d Q = obn (ixN ds.length n) fun k => Q (.lst (ds.set k d)) := rfl
@[simp] theorem setC_dct {t : Bool} {ds : List (D × D)} {i d : D} {Q : Cell → Prop} : setC (some (.dct t ds)) i d Q = cnd (keyOk t i = true) (cnd (ds.length < sizeLine) (Q (.dct t (putK ds i d)))) := rfl
def lstC : Option Cell → Option (List D)
  | some (.lst ds) => some ds
  | _ => none
@[simp] theorem lstD_ref {a : Addr} {M : Mm} : lstD M (.ref a) = lstC (M a) := by
  cases h : M a with
  | none => simp [lstD, lstC, h]
  | some x => cases x <;> simp [lstD, lstC, h]
@[simp] theorem lstC_lst {ds : List D} : lstC (some (.lst ds)) = some ds := rfl
@[simp] theorem seqD_ref {a : Addr} {M : Mm} : seqD M (.ref a) = lstC (M a) := by
  cases h : M a with
  | none => simp [seqD, lstC, h]
  | some x => cases x <;> simp [seqD, lstC, h]
def celC (a : Addr) : Option Cell → Option (Addr × List D)
  | some (.lst ds) => some (a, ds)
  | _ => none
@[simp] theorem celL_ref {a : Addr} {M : Mm} : celL M (.ref a) = celC a (M a) := by
  cases h : M a with
  | none => simp [celL, celC, h]
  | some x => cases x <;> simp [celL, celC, h]
@[simp] theorem celC_lst {a : Addr} {ds : List D} : celC a (some (.lst ds)) = some (a, ds) := rfl
@[simp] theorem lenD_lst {ds : List D} {M : Mm} : lenD M (.lst ds) = some (ds.length : Int) := rfl
@[simp] theorem lenD_tup {ds : List D} {M : Mm} : lenD M (.tup ds) = some (ds.length : Int) := rfl
@[simp] theorem lenD_dct {t : Bool} {ds : List (D × D)} {M : Mm} : lenD M (.dct t ds) = some (ds.length : Int) := rfl
@[simp] theorem ixD_lst {ds : List D} {M : Mm} {n : Int} {Q : D → Prop} : ixD (.lst ds) (.int n) M Q = obn (atI ds n) Q := rfl
@[simp] theorem ixD_tup {ds : List D} {M : Mm} {n : Int} {Q : D → Prop} : ixD (.tup ds) (.int n) M Q = obn (atI ds n) Q := rfl
@[simp] theorem ixD_dct {t : Bool} {ds : List (D × D)} {M : Mm} {n : D} {Q : D → Prop} : ixD (.dct t ds) n M Q = cnd (keyOk t n = true) (obn (getK ds n) Q) := rfl
@[simp] theorem lstD_lst {ds : List D} {M : Mm} : lstD M (.lst ds) = some ds := rfl
@[simp] theorem bmD_append {m : Bool} {o x : D} {M : Mm} {Q : QD} : bmD m .append o [x] M Q = obn (celL M o) fun p => cnd (p.2.length < sizeLine) (Q .non (up M p.1 (.lst (p.2 ++ [x])))) := rfl
@[simp] theorem bmD_extend {m : Bool} {o x : D} {M : Mm} {Q : QD} : bmD m .extend o [x] M Q = obn (celL M o) fun p => obn (lstD M x) fun es => cnd (p.2.length + es.length ≤ sizeLine) (Q .non (up M p.1 (.lst (p.2 ++ es)))) := rfl
@[simp] theorem up_same' {M : Mm} {a : Addr} {c : Cell} : up M a c a = some c := if_pos rfl
@[simp] theorem atI_nil0 {i : Int} : atI ([] : List D) i = none := by
  unfold atI ixN
  simp
@[simp] theorem atI_0 {d : D} {r : List D} : atI (d :: r) 0 = some d := by simp [atI, ixN]
@[simp] theorem atI_1 {d e : D} {r : List D} : atI (d :: e :: r) 1 = some e := by
  unfold atI ixN
  rw [if_pos (by decide), if_pos (by simp; omega)]
  rfl
@[simp] theorem atI_2 {d e f : D} {r : List D} : atI (d :: e :: f :: r) 2 = some f := by
  unfold atI ixN
  rw [if_pos (by decide), if_pos (by simp; omega)]
  rfl
@[simp] theorem atI_map {α : Type} {f : α → D} {xs : List α} {i : Int} : atI (xs.map f) i = (atI xs i).map f := by
  unfold atI
  rw [List.length_map]
  cases ixN xs.length i <;> simp
theorem cnd_intro {A B : Prop} (h : A) (h2 : B) : cnd A B := ⟨h, h2⟩
theorem br_dec {p A B : Prop} {_ : Decidable p} (h1 : p → A) (h2 : ¬ p → B) : br (decide p) A B := by
  by_cases h : p
  · rw [decide_eq_true h]; exact h1 h
  · rw [decide_eq_false h]; exact h2 h
theorem br_cases {b : Bool} {A B : Prop} (h1 : b = true → A) (h2 : b = false → B) : br b A B := by
  cases b with
  | true => exact h1 rfl
  | false => exact h2 rfl
theorem cpow_ok (n : Nat) (h : n ≤ 1000) : CPow 10 n := ⟨by omega, by omega, by decide⟩
theorem cmulL {i j : Int} (h : -(2 ^ 64) < i) (h2 : i < 2 ^ 64) : CMul i j ∨ CMulW i j := .inl (.inl ⟨h, h2⟩)
theorem cmulR {i j : Int} (h : -(2 ^ 64) < j) (h2 : j < 2 ^ 64) : CMul i j ∨ CMulW i j := .inl (.inr ⟨h, h2⟩)
theorem cdiv_lt {i j : Int} (h : 0 < j) (h2 : j < 2 ^ 110) : CDivW i j := by
  refine ⟨h, ?_⟩
  have : j.natAbs < 2 ^ 110 := by omega
  have := (Nat.log2_lt (by omega)).mpr this
  omega
/-- a def's end -/
theorem rt_id {c : Cfg} {Q : QD} {E : QX} {d : D} {M M' : Mm} (h : Q d M') (s : Sub M' M) : (fnK c Q E).rt d M := ⟨d, M', Frz.sub s, h⟩
theorem rt_self {c : Cfg} {Q : QD} {E : QX} {d : D} {M : Mm} (h : Q d M) : (fnK c Q E).rt d M := ⟨d, M, Frz.sub .refl, h⟩
theorem nx_self {c : Cfg} {Q : QD} {E : QX} {env : Env} {M : Mm} (h : Q .non M) : (fnK c Q E).nx env M := ⟨.non, M, Frz.sub .refl, h⟩
@[simp] theorem obn_some' {α : Type} {a : α} {P : α → Prop} : obn (some a) P = P a := rfl
@[simp] theorem obn_none' {α : Type} {P : α → Prop} : obn none P = False := rfl
@[simp] theorem br_true' {A B : Prop} : br true A B = A := rfl
@[simp] theorem br_false' {A B : Prop} : br false A B = B := rfl
@[simp] theorem cnd_true' {B : Prop} : cnd True B = B := true_and B
@[simp] theorem alL_false' {ds : List D} {M : Mm} {Q : QD} : alL false ds M Q = Q (.lst ds) M := rfl
@[simp] theorem alL_true' {ds : List D} {M : Mm} {Q : QD} : alL true ds M Q = ∀ a, M a = none → Q (.ref a) (up M a (.lst ds)) := rfl
@[simp] theorem alK_false' {t : Bool} {ds : List (D × D)} {M : Mm} {Q : QD} : alK false t ds M Q = Q (.dct t ds) M := rfl
@[simp] theorem alK_true' {t : Bool} {ds : List (D × D)} {M : Mm} {Q : QD} : alK true t ds M Q = ∀ a, M a = none → Q (.ref a) (up M a (.dct t ds)) := rfl
@[simp] theorem fr_true {d : D} {M : Mm} {Q : QD} : frz1 true d M Q = Q d M := rfl
@[simp] theorem fr_non {M : Mm} {Q : QD} : frz1 false .non M Q = Q .non M := rfl
@[simp] theorem fr_bl {b : Bool} {M : Mm} {Q : QD} : frz1 false (.bl b) M Q = Q (.bl b) M := rfl
@[simp] theorem fr_int {b : Int} {M : Mm} {Q : QD} : frz1 false (.int b) M Q = Q (.int b) M := rfl
@[simp] theorem fr_str {b : PySem.Str} {M : Mm} {Q : QD} : frz1 false (.str b) M Q = Q (.str b) M := rfl
@[simp] theorem fr_lst {b : List D} {M : Mm} {Q : QD} : frz1 false (.lst b) M Q = Q (.lst b) M := rfl
@[simp] theorem fr_tup {b : List D} {M : Mm} {Q : QD} : frz1 false (.tup b) M Q = Q (.tup b) M := rfl
@[simp] theorem fr_dct {t : Bool} {b : List (D × D)} {M : Mm} {Q : QD} : frz1 false (.dct t b) M Q = Q (.dct t b) M := rfl
@[simp] theorem fr_ins {t : Nm} {b : List (Nm × D)} {M : Mm} {Q : QD} : frz1 false (.ins t b) M Q = Q (.ins t b) M := rfl
@[simp] theorem insD_ins {M : Mm} {n : Nm} {fs : List (Nm × D)} : insD M (.ins n fs) = some (n, fs) := rfl
@[simp] theorem fldD_ins {M : Mm} {n f : Nm} {fs : List (Nm × D)} : fldD M (.ins n fs) f = getF fs f := rfl
@[simp] theorem lk_nil {α : Type} {n : Nm} : lk ([] : List (Nm × α)) n = none := rfl
@[simp] theorem lk_cons {α : Type} {a n : Nm} {b : α} {r : List (Nm × α)} : lk ((a, b) :: r) n = if a = n then some b else lk r n := rfl
@[simp] theorem lk2_nil {α : Type} {n m : Nm} : lk2 ([] : List (Nm × Nm × α)) n m = none := rfl
@[simp] theorem lk2_cons {α : Type} {a a' n m : Nm} {b : α} {r : List (Nm × Nm × α)} : lk2 ((a, a', b) :: r) n m = if a = n ∧ a' = m then some b else lk2 r n m := rfl
@[simp] theorem getF_eq {fs : List (Nm × D)} {n : Nm} : getF fs n = lk fs n := rfl
@[simp] theorem ap_eq {sp : SpD} {ds : List D} {M : Mm} {Q : QD} {E : QX} : ap sp ds M Q E = sp ds M Q E := rfl
@[simp] theorem biD_list {m : Bool} {x : D} {M : Mm} {Q : QD} : biD m .list [x] M Q = (match dctD M x with
      | some (_, kvs) => alL m (kvs.map (·.1)) M Q
      | none => obn (seqD M x) fun ds => alL m ds M Q) := rfl
@[simp] theorem biD_sorted {m : Bool} {x : D} {M : Mm} {Q : QD} : biD m .sorted [x] M Q = obn (lstD M x) fun ds => obn (srtD ds) fun es => alL m es M Q := rfl
@[simp] theorem biD_all {m : Bool} {x : D} {M : Mm} {Q : QD} : biD m .all [x] M Q = obn (lstD M x) fun ds => obn (boolsD ds) fun bs => Q (.bl (bs.all id)) M := rfl
@[simp] theorem biD_any {m : Bool} {x : D} {M : Mm} {Q : QD} : biD m .any [x] M Q = obn (lstD M x) fun ds => obn (boolsD ds) fun bs => Q (.bl (bs.any id)) M := rfl
@[simp] theorem seqD_lst {ds : List D} {M : Mm} : seqD M (.lst ds) = some ds := rfl
@[simp] theorem seqD_tup {ds : List D} {M : Mm} : seqD M (.tup ds) = some ds := rfl
@[simp] theorem seqD_ro {t : Bool} {ds : List D} {M : Mm} : seqD M (.ro t ds) = some ds := rfl
@[simp] theorem dctD_lst {ds : List D} {M : Mm} : dctD M (.lst ds) = none := rfl
@[simp] theorem dctD_tup {ds : List D} {M : Mm} : dctD M (.tup ds) = none := rfl
@[simp] theorem dctD_ro {t : Bool} {ds : List D} {M : Mm} : dctD M (.ro t ds) = none := rfl
@[simp] theorem dctD_dct {t : Bool} {ds : List (D × D)} {M : Mm} : dctD M (.dct t ds) = some (t, ds) := rfl
@[simp] theorem lenD_ro {t : Bool} {ds : List D} {M : Mm} : lenD M (.ro t ds) = some (ds.length : Int) := rfl
@[simp] theorem ixD_ro {t : Bool} {ds : List D} {M : Mm} {n : Int} {Q : D → Prop} : ixD (.ro t ds) (.int n) M Q = obn (atI ds n) Q := rfl
@[simp] theorem catD_lst {m : Bool} {xs ys : List D} {M : Mm} {Q : QD} : catD m (.lst xs) (.lst ys) M Q = cnd (xs.length + ys.length ≤ sizeLine) (alL m (xs ++ ys) M Q) := rfl
@[simp] theorem tupD_tup {ds : List D} : tupD (.tup ds) = some ds := rfl
@[simp] theorem setAll_nil {env : Env} : setAll [] [] env = some env := rfl
@[simp] theorem setAll_cons {i : Nat} {is : List Nat} {d : D} {ds : List D} {env : Env} : setAll (i :: is) (d :: ds) env = setAll is ds (env.set i (some d)) := rfl
@[simp] theorem bindT_nm {i : Nat} {d : D} {M : Mm} {env : Env} : bindT (.nm i) d M env = some (env.set i (some d)) := rfl
@[simp] theorem bindT_tp {is : List Nat} {ds : List D} {M : Mm} {env : Env} : bindT (.tp is) (.tup ds) M env = setAll is ds env := rfl
@[simp] theorem isQ_false {x : Bool} {Q : Bool → Prop} : isQ (.bl x) (.bl false) Q = Q (decide (x = false)) := rfl
@[simp] theorem isQ_true {x : Bool} {Q : Bool → Prop} : isQ (.bl x) (.bl true) Q = Q (decide (x = true)) := rfl
theorem insR_up {a : Addr} {M : Mm} {n : Nm} {fs : List (Nm × D)} : insR (up M a (.ins n fs)) (.ref a) = some (a, n, fs) := by simp [insR, up_same]
@[simp] theorem endD_non {d : D} : endD .non d = some none := rfl
@[simp] theorem endD_var {i : Nat} {n : Int} : endD (.var i) (.int n) = some (some n) := rfl
@[simp] theorem slD_lst {m : Bool} {xs : List D} {lo hi : Option Int} {M : Mm} {Q : QD} : slD m (.lst xs) lo hi M Q = alL m (cut xs lo hi) M Q := rfl
@[simp] theorem negD_int {i : Int} : negD (.int i) = some (-i) := rfl
@[simp] theorem rcv_app {M : Mm} {d : D} : rcvB .append M d = (lstD M d).isSome := rfl
@[simp] theorem rcv_ext {M : Mm} {d : D} : rcvB .extend M d = (lstD M d).isSome := rfl
@[simp] theorem rcv_clr {M : Mm} {d : D} : rcvB .clear M d = (lstD M d).isSome := rfl
@[simp] theorem rcv_pop {M : Mm} {d : D} : rcvB .pop M d = (lstD M d).isSome := rfl
@[simp] theorem rcv_get {M : Mm} {d : D} : rcvB .get M d = (dctD M d).isSome := rfl
@[simp] theorem bmD_clear {m : Bool} {o : D} {M : Mm} {Q : QD} : bmD m .clear o [] M Q = obn (celL M o) fun p => Q .non (up M p.1 (.lst [])) := rfl
@[simp] theorem itD_seq {x : D} {M : Mm} : itD .seq [x] M = seqD M x := rfl
@[simp] theorem up_up' {M : Mm} {a : Addr} {c c' : Cell} : up (up M a c) a c' = up M a c' := up_up
@[simp] theorem out_nx {K : KD} {i : Nat} {env : Env} {M : Mm} : (K.out i).nx env M = K.nx (env.set i none) M := rfl
@[simp] theorem out_rt {K : KD} {i : Nat} : (K.out i).rt = K.rt := rfl
@[simp] theorem sui_nx {K : KD} : K.sui.nx = K.nx := rfl
@[simp] theorem sui_rt {K : KD} : K.sui.rt = K.rt := rfl
@[simp] theorem ownOk_nil {T : Tab} : ownOk T [] = true := rfl
@[simp] theorem ownOk_bt {T : Tab} {n : String} {r : List Ty1} : ownOk T (.bt n :: r) = ownOk T r := by simp [ownOk]
@[simp] theorem ownOk_own {T : Tab} {n : Nm} {r : List Ty1} : ownOk T (.own n :: r) = (decide (n ∈ T.own) && ownOk T r) := by simp [ownOk]
@[simp] theorem anyT_nil {f : Ty1 → Option Bool} : anyT f [] = some false := rfl
theorem anyT_cons {f : Ty1 → Option Bool} {t : Ty1} {r : List Ty1} {b : Bool} (h : f t = some b) : anyT f (t :: r) = if b = true then some true else anyT f r := by
  simp only [anyT, h]; cases b <;> rfl
/-- a value whose type isinstance may be asked -/
def tyB : D → Option String
  | .non => some "NoneType"
  | .bl _ => some "bool"
  | .int _ => some "int"
  | .str _ => some "str"
  | .lst _ => some "list"
  | .ro t _ => some (if t = true then "tuple" else "list")
  | .tup _ => some "tuple"
  | .dct false _ => some "dict"
  | _ => none
theorem isA_bt {T : Tab} {M : Mm} {d : D} {n x : String} (h : tyB d = some x) : isA T M d [.bt n] = some (decide (x = n) || (decide (x = "bool") && decide (n = "int"))) := by
  have : tyD T M d = some (.bt x) := by
    cases d with
    | dct t _ => cases t <;> cases h; rfl
    | ref _ => cases h
    | ins _ _ => cases h
    | exc _ _ => cases h
    | _ => cases h; rfl
  unfold isA
  rw [this]
  show anyT (isT T (.bt x)) [.bt n] = _
  rw [anyT_cons (b := (decide (x = n) || (decide (x = "bool") && decide (n = "int")))) rfl]
  cases (decide (x = n) || (decide (x = "bool") && decide (n = "int"))) <;> rfl
@[simp] theorem isA_non {T : Tab} {M : Mm} {n : String} : isA T M .non [.bt n] = some (decide ("NoneType" = n) || (decide ("NoneType" = "bool") && decide (n = "int"))) := isA_bt rfl
@[simp] theorem isA_bl {T : Tab} {M : Mm} {b : Bool} {n : String} : isA T M (.bl b) [.bt n] = some (decide ("bool" = n) || (decide ("bool" = "bool") && decide (n = "int"))) := isA_bt rfl
@[simp] theorem isA_int {T : Tab} {M : Mm} {b : Int} {n : String} : isA T M (.int b) [.bt n] = some (decide ("int" = n) || (decide ("int" = "bool") && decide (n = "int"))) := isA_bt rfl
@[simp] theorem isA_str {T : Tab} {M : Mm} {b : PySem.Str} {n : String} : isA T M (.str b) [.bt n] = some (decide ("str" = n) || (decide ("str" = "bool") && decide (n = "int"))) := isA_bt rfl
@[simp] theorem isA_lst {T : Tab} {M : Mm} {b : List D} {n : String} : isA T M (.lst b) [.bt n] = some (decide ("list" = n) || (decide ("list" = "bool") && decide (n = "int"))) := isA_bt rfl
@[simp] theorem isA_tup {T : Tab} {M : Mm} {b : List D} {n : String} : isA T M (.tup b) [.bt n] = some (decide ("tuple" = n) || (decide ("tuple" = "bool") && decide (n = "int"))) := isA_bt rfl
def dctC : Option Cell → Option (Bool × List (D × D))
  | some (.dct t ds) => some (t, ds)
  | _ => none
@[simp] theorem dctD_ref {a : Addr} {M : Mm} : dctD M (.ref a) = dctC (M a) := by
  cases h : M a with
  | none => simp [dctD, dctC, h]
  | some x => cases x <;> simp [dctD, dctC, h]
@[simp] theorem dctC_lst {ds : List D} : dctC (some (.lst ds)) = none := rfl
@[simp] theorem dctC_dct {t : Bool} {ds : List (D × D)} : dctC (some (.dct t ds)) = some (t, ds) := rfl
def insRC (a : Addr) : Option Cell → Option (Addr × Nm × List (Nm × D))
  | some (.ins n fs) => some (a, n, fs)
  | _ => none
@[simp] theorem insR_ref {a : Addr} {M : Mm} : insR M (.ref a) = insRC a (M a) := by
  cases h : M a with
  | none => simp [insR, insRC, h]
  | some x => cases x <;> simp [insR, insRC, h]
@[simp] theorem insRC_ins {a : Addr} {n : Nm} {fs : List (Nm × D)} : insRC a (some (.ins n fs)) = some (a, n, fs) := rfl
end L3

set_option maxRecDepth 100000
namespace L3
open PySem L2
/-! ### comprehensions that change nothing -/
theorem compL_map {chk : Mm → Prop} {wc we : Env → Mm → (D → Mm → Prop) → Prop} {tg : Tg} {env : Env} (f : D → D) : ∀ (items acc : List D) (M : Mm) (Q : List D → Mm → Prop), chk M →
    (∀ x ∈ items, ∃ env', bindT tg x M env = some env' ∧ (∀ P : D → Mm → Prop, P (.bl true) M → wc env' M P) ∧ ∀ P : D → Mm → Prop, P (f x) M → we env' M P) → Q (acc ++ items.map f) M → compL chk wc we tg env items acc M Q
  | [], acc, M, Q, hc, _, hQ => ⟨hc, by simpa using hQ⟩
  | x :: r, acc, M, Q, hc, h, hQ => by
    obtain ⟨env', e, h1, h2⟩ := h x List.mem_cons_self
    refine ⟨hc, ?_⟩
    rw [e]
    refine h1 _ (h2 _ ?_)
    exact compL_map f r _ M Q hc (fun y hy => h y (List.mem_cons_of_mem _ hy)) (by simpa using hQ)
theorem compL_filter {chk : Mm → Prop} {wc we : Env → Mm → (D → Mm → Prop) → Prop} {tg : Tg} {env : Env} (p : D → Bool) (f : D → D) : ∀ (items acc : List D) (M : Mm) (Q : List D → Mm → Prop), chk M →
    (∀ x ∈ items, ∃ env', bindT tg x M env = some env' ∧ (∀ P : D → Mm → Prop, P (.bl (p x)) M → wc env' M P) ∧ (p x = true → ∀ P : D → Mm → Prop, P (f x) M → we env' M P)) → Q (acc ++ (items.filter p).map f) M → compL chk wc we tg env items acc M Q
  | [], acc, M, Q, hc, _, hQ => ⟨hc, by simpa using hQ⟩
  | x :: r, acc, M, Q, hc, h, hQ => by
    obtain ⟨env', e, h1, h2⟩ := h x List.mem_cons_self
    refine ⟨hc, ?_⟩
    rw [e]
    refine h1 _ ?_
    show obn (some (p x)) _
    cases hp : p x with
    | true => exact h2 hp _ (compL_filter p f r _ M Q hc (fun y hy => h y (List.mem_cons_of_mem _ hy)) (by simpa [hp] using hQ))
    | false => exact compL_filter p f r _ M Q hc (fun y hy => h y (List.mem_cons_of_mem _ hy)) (by simpa [hp] using hQ)
/-! ### data compared -/
theorem pu_ints {n : Nat} : ∀ (is : List Int), pu.puL n (is.map .int) = true
  | [] => rfl
  | i :: r => by simp [pu.puL, pu, pu_ints r]
theorem pu_lst {n : Nat} {is : List Int} (h : 0 < n) : pu n (.lst (is.map .int)) = true := by simp [pu, h, pu_ints]
def prDs (ps : List (Int × Int)) : List D := ps.map prD
theorem pu_prs {n : Nat} (h : 0 < n) : ∀ (ps : List (Int × Int)), pu.puL n (ps.map prD) = true
  | [] => rfl
  | i :: r => by simp [pu.puL, prD, pu, pu_prs h r, h]
theorem rsL_ints {M : Mm} : ∀ (is : List Int), rs.rsL M (is.map .int) = is.map .int
  | [] => rfl
  | i :: r => by simp [rs.rsL, rs, rsL_ints r]
theorem rsL_prs {M : Mm} : ∀ (ps : List (Int × Int)), rs.rsL M (ps.map prD) = ps.map prD
  | [] => rfl
  | i :: r => by simp [rs.rsL, rs, prD, rsL_prs r]
theorem eqv_ints : ∀ (is js : List Int), eqv.eqvL (is.map .int) (js.map .int) = decide (is = js)
  | [], [] => rfl
  | [], _ :: _ => rfl
  | _ :: _, [] => rfl
  | i :: r, j :: t => by
    show (eqv (.int i) (.int j) && eqv.eqvL (r.map .int) (t.map .int)) = _
    rw [eqv_ints r t]
    have : eqv (.int i) (.int j) = decide (i = j) := by simp [eqv]; rfl
    rw [this]
    by_cases h1 : i = j <;> by_cases h2 : r = t <;> simp [h1, h2]
theorem eqv_pr (p q : Int × Int) : eqv (prD p) (prD q) = decide (p = q) := by
  obtain ⟨a, b⟩ := p
  obtain ⟨x, y⟩ := q
  have := eqv_ints [a, b] [x, y]
  show eqv.eqvL [.int a, .int b] [.int x, .int y] = _
  simp only [List.map_cons, List.map_nil] at this
  rw [this]
  simp
theorem eqv_prs : ∀ (ps qs : List (Int × Int)), eqv.eqvL (ps.map prD) (qs.map prD) = decide (ps = qs)
  | [], [] => rfl
  | [], _ :: _ => rfl
  | _ :: _, [] => rfl
  | i :: r, j :: t => by
    show (eqv (prD i) (prD j) && eqv.eqvL (r.map prD) (t.map prD)) = _
    rw [eqv_prs r t, eqv_pr]
    by_cases h1 : i = j <;> by_cases h2 : r = t <;> simp [h1, h2]
theorem any_ints {i : Int} : ∀ (is : List Int), ((is.map D.int).any fun z => eqv z (.int i)) = decide (i ∈ is)
  | [] => by simp
  | j :: r => by
    have e : eqv (.int j) (.int i) = decide (j = i) := by simp [eqv]; rfl
    simp only [List.map_cons, List.any_cons, any_ints r, e, List.mem_cons]
    by_cases h : i = j <;> by_cases h2 : i ∈ r <;> simp [h, h2, eq_comm]
theorem any_prs {p : Int × Int} : ∀ (ps : List (Int × Int)), ((ps.map prD).any fun z => eqv z (prD p)) = decide (p ∈ ps)
  | [] => by simp
  | j :: r => by
    simp only [List.map_cons, List.any_cons, any_prs r, eqv_pr, List.mem_cons]
    by_cases h : p = j <;> by_cases h2 : p ∈ r <;> simp [h, h2, eq_comm]
theorem inQ_lst {x : D} {ds : List D} {M : Mm} {Q : Bool → Prop} : inQ x (.lst ds) M Q = cnd (pu 59 (rs M x) = true) (cnd (pu 59 (.lst ds) = true) (Q (ds.any fun z => eqv z (rs M x)))) := rfl
theorem inQ_ref {x : D} {a : Addr} {ds : List D} {M : Mm} {Q : Bool → Prop} (h : M a = some (.lst ds)) : inQ x (.ref a) M Q = cnd (pu 59 (rs M x) = true) (cnd (pu 59 (.lst ds) = true) (Q (ds.any fun z => eqv z (rs M x)))) := by
  have e1 : dctD M (.ref a) = none := by simp [dctD, h]
  have e2 : seqD M (.ref a) = some ds := by simp [seqD, h]
  unfold inQ
  rw [e1]
  show obn (seqD M (.ref a)) _ = _
  rw [e2]
  rfl
theorem rs_pr {M : Mm} {p : Int × Int} : rs M (prD p) = prD p := by simp [rs, rs.rsL, prD]
theorem pu_pr {n : Nat} {p : Int × Int} (h : 0 < n) : pu n (prD p) = true := by simp [pu, pu.puL, prD, h]
@[simp] theorem in_ints {i : Int} {is : List Int} {M : Mm} {Q : Bool → Prop} : inQ (.int i) (.lst (is.map .int)) M Q = Q (decide (i ∈ is)) := by
  rw [inQ_lst]
  have e : rs M (.int i) = .int i := by simp [rs]
  rw [e, any_ints]
  simp [cnd, pu, pu_ints]
theorem in_ints_ref {i : Int} {a : Addr} {is : List Int} {M : Mm} {Q : Bool → Prop} (h : M a = some (.lst (is.map .int))) : inQ (.int i) (.ref a) M Q = Q (decide (i ∈ is)) := by
  rw [inQ_ref h]
  have e : rs M (.int i) = .int i := by simp [rs]
  rw [e, any_ints]
  simp [cnd, pu, pu_ints]
theorem in_prs {p : Int × Int} {ps : List (Int × Int)} {M : Mm} {Q : Bool → Prop} : inQ (prD p) (.lst (ps.map prD)) M Q = Q (decide (p ∈ ps)) := by
  rw [inQ_lst, rs_pr, any_prs]
  simp [cnd, pu_pr, pu, pu_prs]
theorem in_prs_ref {p : Int × Int} {a : Addr} {ps : List (Int × Int)} {M : Mm} {Q : Bool → Prop} (h : M a = some (.lst (ps.map prD))) : inQ (prD p) (.ref a) M Q = Q (decide (p ∈ ps)) := by
  rw [inQ_ref h, rs_pr, any_prs]
  simp [cnd, pu_pr, pu, pu_prs]
theorem eq_of {x y : D} {M : Mm} {Q : Bool → Prop} {b : Bool} (h1 : pu 60 (rs M (rs M x)) = true) (h2 : pu 60 (rs M (rs M y)) = true) (h3 : eqv (rs M (rs M x)) (rs M (rs M y)) = b) (h : Q b) : eqQ x y M Q := by
  subst h3
  exact ⟨h1, h2, h⟩
theorem rs_ref {a : Addr} {ds : List D} {M : Mm} (h : M a = some (.lst ds)) : rs M (.ref a) = .lst ds := by simp [rs, h]
theorem rs_ints {is : List Int} {M : Mm} : rs M (.lst (is.map .int)) = .lst (is.map .int) := by simp [rs, rsL_ints]
theorem rs_prs {ps : List (Int × Int)} {M : Mm} : rs M (.lst (ps.map prD)) = .lst (ps.map prD) := by simp [rs, rsL_prs]
@[simp] theorem eq_ints {is js : List Int} {M : Mm} {Q : Bool → Prop} : eqQ (.lst (is.map .int)) (.lst (js.map .int)) M Q = Q (decide (is = js)) := by
  unfold eqQ
  rw [rs_ints, rs_ints, rs_ints, rs_ints]
  have : eqv (.lst (is.map .int)) (.lst (js.map .int)) = decide (is = js) := eqv_ints is js
  rw [this]
  simp [cnd, pu_lst]
@[simp] theorem eq_prs {is js : List (Int × Int)} {M : Mm} {Q : Bool → Prop} : eqQ (.lst (is.map prD)) (.lst (js.map prD)) M Q = Q (decide (is = js)) := by
  unfold eqQ
  rw [rs_prs, rs_prs, rs_prs, rs_prs]
  have : eqv (.lst (is.map prD)) (.lst (js.map prD)) = decide (is = js) := eqv_prs is js
  rw [this]
  simp [cnd, pu, pu_prs]
theorem getK_ints {α : Type} (f : α → Int) (g : α → D) (i : Int) : ∀ (xs : List α), getK (xs.map fun x => (D.int (f x), g x)) (.int i) = (xs.find? fun x => decide (f x = i)).map g
  | [] => rfl
  | x :: r => by
    show (if eqKey (.int (f x)) (.int i) = true then some (g x) else getK (r.map fun x => (D.int (f x), g x)) (.int i)) = _
    rw [getK_ints f g i r]
    by_cases h : f x = i <;> simp [eqKey, h]
theorem boolsD_all {α : Type} {xs : List α} {f : α → Bool} : boolsD (xs.map fun x => D.bl (f x)) = some (xs.map f) := by
  have := boolsD_map (xs.map f)
  rw [List.map_map] at this
  exact this
@[simp] theorem intsD_ints {is : List Int} : intsD (is.map .int) = some is := intsD_map is
theorem srt_ints (is : List Int) : srtD (is.map .int) = some ((is.mergeSort fun a b => decide (a ≤ b)).map .int) := by unfold srtD; rw [intsD_map]
theorem srt_prs (ps : List (Int × Int)) (h : ps ≠ []) : srtD (ps.map prD) = some ((ps.mergeSort leP).map prD) := by
  unfold srtD
  have : intsD (ps.map prD) = none := by cases ps with
    | nil => exact absurd rfl h
    | cons p r => rfl
  rw [this, prs_map]
theorem srt_prs' (ps : List (Int × Int)) : srtD (ps.map prD) = some ((ps.mergeSort leP).map prD) := by
  cases ps with
  | nil => simp [srtD, intsD]
  | cons p r => exact srt_prs _ (by simp)
/-- two rising lists of the same members -/
theorem strict_ext : ∀ {xs ys : List Int}, xs.Pairwise (· < ·) → ys.Pairwise (· < ·) → (∀ z, z ∈ xs ↔ z ∈ ys) → xs = ys
  | [], [], _, _, _ => rfl
  | [], y :: ys, _, _, h => by have := (h y).mpr List.mem_cons_self; cases this
  | x :: xs, [], _, _, h => by have := (h x).mp List.mem_cons_self; cases this
  | x :: xs, y :: ys, h1, h2, h => by
    rw [List.pairwise_cons] at h1 h2
    have e : x = y := by
      rcases List.mem_cons.mp ((h x).mp List.mem_cons_self) with e | e
      · exact e
      · rcases List.mem_cons.mp ((h y).mpr List.mem_cons_self) with e' | e'
        · exact e'.symm
        · have a := h2.1 x e
          have b := h1.1 y e'
          omega
    subst e
    rw [strict_ext h1.2 h2.2 fun z => ⟨fun hz => by
      rcases List.mem_cons.mp ((h z).mp (List.mem_cons_of_mem _ hz)) with e | e
      · subst e; exact absurd (h1.1 z hz) (by omega)
      · exact e, fun hz => by
      rcases List.mem_cons.mp ((h z).mpr (List.mem_cons_of_mem _ hz)) with e | e
      · subst e; exact absurd (h2.1 z hz) (by omega)
      · exact e⟩]
theorem sort_strict {xs : List Int} (nd : xs.Nodup) : (xs.mergeSort fun a b => decide (a ≤ b)).Pairwise (· < ·) := by
  have s := List.pairwise_mergeSort (le := fun a b : Int => decide (a ≤ b)) (fun a b c h1 h2 => by simp at *; omega) (fun a b => by simp; omega) xs
  have n : (xs.mergeSort fun a b => decide (a ≤ b)).Nodup := (List.mergeSort_perm xs _).nodup_iff.mpr nd
  refine (s.and n).imp fun h => ?_
  have := h.1
  have := h.2
  simp at *
  omega
theorem sort_eq {xs ys : List Int} (nd : xs.Nodup) (hy : ys.Pairwise (· < ·)) (h : ∀ z, z ∈ xs ↔ z ∈ ys) : (xs.mergeSort fun a b => decide (a ≤ b)) = ys :=
  strict_ext (sort_strict nd) hy fun z => by rw [← h z]; exact (List.mergeSort_perm xs _).mem_iff
theorem compQ_map {chk : List D → Mm → Prop} {wc we : Env → Mm → (D → Mm → Prop) → Prop} {tg : Tg} {env : Env} {items : List D} {M : Mm} {Q : List D → Mm → Prop} (f : D → D) (hl : items.length ≤ sizeLine) (hc : chk items M)
    (h : ∀ x ∈ items, ∃ env', bindT tg x M env = some env' ∧ (∀ P : D → Mm → Prop, P (.bl true) M → wc env' M P) ∧ ∀ P : D → Mm → Prop, P (f x) M → we env' M P) (hQ : Q (items.map f) M) : compQ chk wc we tg env (some items) M Q :=
  ⟨hl, compL_map f items [] M Q hc h (by simpa using hQ)⟩
/-- a comprehension, by what holds between -/
theorem compL_ind {chk : Mm → Prop} {wc we : Env → Mm → (D → Mm → Prop) → Prop} {tg : Tg} {env : Env} {Q : List D → Mm → Prop} (I : List D → List D → Mm → Prop) (hc : ∀ xs acc M, I xs acc M → chk M)
    (hs : ∀ x xs acc M, I (x :: xs) acc M → ∃ env', bindT tg x M env = some env' ∧ (∀ P : D → Mm → Prop, P (.bl true) M → wc env' M P) ∧ ∀ P : D → Mm → Prop, (∀ d M', I xs (acc ++ [d]) M' → P d M') → we env' M P)
    (he : ∀ acc M, I [] acc M → Q acc M) : ∀ (items acc : List D) (M : Mm), I items acc M → compL chk wc we tg env items acc M Q
  | [], acc, M, h => ⟨hc _ _ _ h, he _ _ h⟩
  | x :: xs, acc, M, h => by
    obtain ⟨env', e, h1, h2⟩ := hs x xs acc M h
    refine ⟨hc _ _ _ h, ?_⟩
    rw [e]
    exact h1 _ (h2 _ fun d M' h' => compL_ind I hc hs he xs _ M' h')
theorem compQ_ind {chk : List D → Mm → Prop} {wc we : Env → Mm → (D → Mm → Prop) → Prop} {tg : Tg} {env : Env} {items : List D} {M : Mm} {Q : List D → Mm → Prop} (I : List D → List D → Mm → Prop) (hl : items.length ≤ sizeLine) (h0 : I items [] M) (hc : ∀ xs acc M, I xs acc M → chk items M)
    (hs : ∀ x xs acc M, I (x :: xs) acc M → ∃ env', bindT tg x M env = some env' ∧ (∀ P : D → Mm → Prop, P (.bl true) M → wc env' M P) ∧ ∀ P : D → Mm → Prop, (∀ d M', I xs (acc ++ [d]) M' → P d M') → we env' M P)
    (he : ∀ acc M, I [] acc M → Q acc M) : compQ chk wc we tg env (some items) M Q := ⟨hl, compL_ind I hc hs he items [] M h0⟩
theorem small {n : Nat} (h : n ≤ 1000) : n ≤ sizeLine := Nat.le_trans h (by decide)
/-- values that isinstance is asked of -/
def plainB : D → Bool
  | .non => true
  | .bl _ => true
  | .int _ => true
  | .str _ => true
  | .lst _ => true
  | .tup _ => true
  | _ => false
theorem all_true {α : Type} (xs : List α) : (xs.map fun _ => true).all id = true := by simp
theorem isA_ref {T : Tab} {M : Mm} {a : Addr} {ds : List D} {n : String} (h : M a = some (.lst ds)) : isA T M (.ref a) [.bt n] = some (decide ("list" = n) || (decide ("list" = "bool") && decide (n = "int"))) := by
  unfold isA
  have : tyD T M (.ref a) = some (.bt "list") := by simp [tyD, h]
  rw [this]
  show anyT (isT T (.bt "list")) [.bt n] = _
  rw [anyT_cons (b := (decide ("list" = n) || (decide ("list" = "bool") && decide (n = "int")))) rfl]
  cases (decide ("list" = n) || (decide ("list" = "bool") && decide (n = "int"))) <;> rfl
theorem mem_rng {lo : Int} {n : Nat} {d : D} (h : d ∈ rngL lo n) : ∃ i : Nat, i < n ∧ d = .int (lo + i) := by
  simp [rngL] at h
  obtain ⟨i, h1, h2⟩ := h
  exact ⟨i, h1, h2.symm⟩
theorem itD_rng1 {n : Int} {M : Mm} (h : n < 2 ^ 62) (h2 : -(2 ^ 62) ≤ n) : itD .rng1 [.int n] M = some (rngL 0 n.toNat) := if_pos ⟨h, h2⟩
theorem itD_rng2 {a b : Int} {M : Mm} (h : (-(2 ^ 62) ≤ a ∧ a < 2 ^ 62) ∧ -(2 ^ 62) ≤ b ∧ b < 2 ^ 62) : itD .rng2 [.int a, .int b] M = some (rngL a (b - a).toNat) := if_pos h
theorem atI_of {is : List Int} {k : Nat} (h : k < is.length) : atI (is.map D.int) (k : Int) = some (.int is[k]) := by
  unfold atI ixN
  rw [if_pos (by omega), if_pos (by simpa using h)]
  simp [h]
@[simp] theorem comp_const {α β γ : Type} {f : α → β} {b : γ} : ((fun _ : β => b) ∘ f) = fun _ => b := rfl
theorem sIx_of {n d : Nat} {i : Int} (h : 0 ≤ i) (h2 : i ≤ n) : HT.sIx n d (some i) = i.toNat := by
  show (if i < 0 then (i + (n : Int)).toNat else min i.toNat n) = i.toNat
  rw [if_neg (by omega)]
  omega
theorem cut_take {α : Type} {xs : List α} {i : Int} (h : 0 ≤ i) (h2 : i ≤ xs.length) : cut xs none (some i) = xs.take i.toNat := by
  unfold cut
  rw [sIx_of h h2]
  show (xs.drop 0).take (i.toNat - 0) = _
  simp
theorem cut_drop {α : Type} {xs : List α} {i : Int} (h : 0 ≤ i) (h2 : i ≤ xs.length) : cut xs (some i) none = xs.drop i.toNat := by
  unfold cut
  rw [sIx_of h h2]
  show (xs.drop i.toNat).take (xs.length - i.toNat) = _
  rw [List.take_of_length_le (by simp)]
theorem mem_enum {ds : List D} {x : D} (h : x ∈ enumFrom 0 ds) : ∃ (i : Nat) (d : D), ds[i]? = some d ∧ x = .tup [.int (i : Nat), d] := by
  obtain ⟨i, hi⟩ := List.mem_iff_getElem?.mp h
  have : ∀ {ds : List D} {n i : Nat} {d : D}, (enumFrom n ds)[i]? = some d → ∃ e, ds[i]? = some e ∧ d = .tup [.int ((n + i : Nat) : Int), e] := by
    intro ds
    induction ds with
    | nil => intro n i d h; simp [enumFrom] at h
    | cons e r ih => intro n i d h; cases i with
      | zero => simp [enumFrom] at h; exact ⟨e, rfl, h.symm⟩
      | succ i =>
        obtain ⟨e', h1, h2⟩ := ih (n := n + 1) (i := i) (d := d) (by simpa [enumFrom] using h)
        exact ⟨e', by simpa using h1, by rw [h2, show n + 1 + i = n + (i + 1) by omega]⟩
  obtain ⟨e, h1, h2⟩ := this hi
  exact ⟨i, e, h1, by rw [h2, Nat.zero_add]⟩
theorem enum_size {ds : List D} : ∀ {n : Nat}, (enumFrom n ds).length = ds.length := by
  induction ds with
  | nil => intro n; rfl
  | cons e r ih => intro n; simp [enumFrom, ih]
theorem itD_enum {d : D} {ds : List D} {M : Mm} (h : lstD M d = some ds) : itD .enum [d] M = some (enumFrom 0 ds) := by
  show (match lstD M d with | some ds => some (enumFrom 0 ds) | none => none) = _
  rw [h]
theorem slD_ref {m : Bool} {a : Addr} {ds : List D} {lo hi : Option Int} {M : Mm} {Q : QD} (h : M a = some (.lst ds)) : slD m (.ref a) lo hi M Q = alL m (cut ds lo hi) M Q := by
  show obn (seqD M (.ref a)) _ = _
  have : seqD M (.ref a) = some ds := by simp [seqD, h]
  rw [this]
  rfl
@[simp] theorem all_const {α : Type} {xs : List α} : (xs.all fun _ => true) = true := by simp [List.all_eq_true]
/-- a loop, by what holds of what is left -/
theorem forL_ind {chk : Mm → Prop} {body : KD → Env → Mm → Prop} {tg : Tg} {K : KD} (I : List D → Env → Mm → Prop) (hc : ∀ xs env M, I xs env M → chk M)
    (hs : ∀ x xs env M (F : Env → Mm → Prop), I (x :: xs) env M → (∀ env' M', I xs env' M' → F env' M') → ∃ env', bindT tg x M env = some env' ∧ body { nx := F, rt := K.rt, bk := K.nx, ct := F, ex := K.ex } env' M)
    (he : ∀ env M, I [] env M → K.nx env M) : ∀ (items : List D) (env : Env) (M : Mm), I items env M → forL chk body tg K items env M
  | [], env, M, h => ⟨hc _ _ _ h, he _ _ h⟩
  | x :: xs, env, M, h => by
    refine ⟨hc _ _ _ h, ?_⟩
    obtain ⟨env', e, q⟩ := hs x xs env M (forL chk body tg K xs) h fun env' M' h' => forL_ind I hc hs he xs env' M' h'
    rw [e]
    exact q
theorem forQ_ind {chk : List D → Mm → Prop} {body : KD → Env → Mm → Prop} {tg : Tg} {K : KD} {items : List D} {env : Env} {M : Mm} (I : List D → Env → Mm → Prop) (h0 : I items env M) (hc : ∀ xs env M, I xs env M → chk items M)
    (hs : ∀ x xs env M (F : Env → Mm → Prop), I (x :: xs) env M → (∀ env' M', I xs env' M' → F env' M') → ∃ env', bindT tg x M env = some env' ∧ body { nx := F, rt := K.rt, bk := K.nx, ct := F, ex := K.ex } env' M)
    (he : ∀ env M, I [] env M → K.nx env M) : forQ chk body tg K (some items) env M := forL_ind I hc hs he items env M h0
theorem forQ_start {chk : List D → Mm → Prop} {body : KD → Env → Mm → Prop} {tg : Tg} {K : KD} {o : Option (List D)} {items : List D} {env : Env} {M : Mm} (e : o = some items) (h : forQ chk body tg K (some items) env M) : forQ chk body tg K o env M := by rw [e]; exact h
theorem compQ_start {chk : List D → Mm → Prop} {wc we : Env → Mm → (D → Mm → Prop) → Prop} {tg : Tg} {env : Env} {o : Option (List D)} {items : List D} {M : Mm} {Q : List D → Mm → Prop} (e : o = some items) (h : compQ chk wc we tg env (some items) M Q) : compQ chk wc we tg env o M Q := by rw [e]; exact h
theorem wSs_app {T : Tab} : ∀ (p q : List SS) (K : KD) (env : Env) (M : Mm), wSs T (p ++ q) K env M = wSs T p { nx := fun env M => wSs T q K env M, rt := K.rt, bk := K.bk, ct := K.ct, ex := K.ex } env M
  | [], q, K, env, M => by rw [List.nil_append, wSs_nil]
  | s :: r, q, K, env, M => by
    show wSs T (s :: (r ++ q)) K env M = _
    rw [wSs_cons, wSs_cons]
    congr 2
    funext env M
    exact wSs_app r q K env M
theorem rng_drop {n k : Nat} (h : k < n) : (rngL 0 n).drop k = .int (k : Nat) :: (rngL 0 n).drop (k + 1) := by
  have : k < (rngL 0 n).length := by simpa [rngL] using h
  rw [List.drop_eq_getElem_cons this]
  congr 1
  simp [rngL]
theorem rng_len {lo : Int} {n : Nat} : (rngL lo n).length = n := by simp [rngL]
/-- a list handed in: at a place, or as data -/
def Arg (M : Mm) (d : D) (ds : List D) : Prop := (∃ a, d = .ref a ∧ M a = some (.lst ds)) ∨ d = .lst ds
structure ArgF (M : Mm) (d : D) (ds : List D) : Prop where
  lst : lstD M d = some ds
  seq : seqD M d = some ds
  dct : dctD M d = none
  len : lenD M d = some (ds.length : Int)
  isa : ∀ T n, isA T M d [.bt n] = some (decide ("list" = n) || (decide ("list" = "bool") && decide (n = "int")))
  ix : ∀ (i : Int) (Q : D → Prop), ixD d (.int i) M Q = obn (atI ds i) Q
  sl : ∀ m lo hi (Q : QD), slD m d lo hi M Q = alL m (cut ds lo hi) M Q
  inq : ∀ x (Q : Bool → Prop), inQ x d M Q = cnd (pu 59 (rs M x) = true) (cnd (pu 59 (.lst ds) = true) (Q (ds.any fun z => eqv z (rs M x))))
theorem Arg.f {M : Mm} {d : D} {ds : List D} (h : Arg M d ds) : ArgF M d ds := by
  rcases h with ⟨a, rfl, h⟩ | rfl
  · exact ⟨by simp [h], by simp [h], by simp [h], by simp [h], fun T n => isA_ref h, fun i Q => by simp [h], fun m lo hi Q => slD_ref h, fun x Q => inQ_ref h⟩
  · exact ⟨rfl, rfl, rfl, rfl, fun T n => isA_lst, fun i Q => rfl, fun m lo hi Q => rfl, fun x Q => rfl⟩
theorem Arg.sub {M M' : Mm} {d : D} {ds : List D} (h : Arg M d ds) (s : Sub M M') : Arg M' d ds := h.imp (fun ⟨a, e, h⟩ => ⟨a, e, s a _ h⟩) id
theorem ArgF.ints {M : Mm} {d : D} {is : List Int} (h : ArgF M d (is.map .int)) (i : Int) (Q : Bool → Prop) : inQ (.int i) d M Q = Q (decide (i ∈ is)) := by
  rw [h.inq, ← inQ_lst, in_ints]
theorem ArgF.prs {M : Mm} {d : D} {ps : List (Int × Int)} (h : ArgF M d (ps.map prD)) (p : Int × Int) (Q : Bool → Prop) : inQ (prD p) d M Q = Q (decide (p ∈ ps)) := by
  rw [h.inq, ← inQ_lst, in_prs]
/-- while, by the turns that are left -/
theorem whN_ind {c : Env → Mm → QD → Prop} {body : KD → Env → Mm → Prop} {K : KD} (I : Nat → Env → Mm → Prop)
    (hs : ∀ n env M (F : Env → Mm → Prop), I n env M → (∀ m, n = m + 1 → ∀ env' M', I m env' M' → F env' M') → c env M fun d M' => obn (truD M' d) fun b => br b (body { nx := F, rt := K.rt, bk := K.nx, ct := F, ex := K.ex } env M') (K.nx env M')) :
    ∀ n env M, I n env M → whN c body K (n + 1) env M
  | 0, env, M, h => hs 0 env M (whN c body K 0) h fun m e => by cases e
  | n + 1, env, M, h => hs (n + 1) env M (whN c body K (n + 1)) h fun m e env' M' h' => by cases e; exact whN_ind I hs n env' M' h'
theorem whQ_ind {c : Env → Mm → QD → Prop} {body : KD → Env → Mm → Prop} {K : KD} {env : Env} {M : Mm} (I : Nat → Env → Mm → Prop) (n : Nat) (h0 : I n env M)
    (hs : ∀ n env M (F : Env → Mm → Prop), I n env M → (∀ m, n = m + 1 → ∀ env' M', I m env' M' → F env' M') → c env M fun d M' => obn (truD M' d) fun b => br b (body { nx := F, rt := K.rt, bk := K.nx, ct := F, ex := K.ex } env M') (K.nx env M')) : whQ c body K env M := ⟨n + 1, whN_ind I hs n env M h0⟩
theorem nodup_le : ∀ {xs ys : List Int}, xs.Nodup → (∀ z ∈ xs, z ∈ ys) → xs.length ≤ ys.length
  | [], _, _, _ => Nat.zero_le _
  | x :: r, ys, nd, h => by
    rw [List.nodup_cons] at nd
    have hx := h x List.mem_cons_self
    have := nodup_le (xs := r) (ys := ys.erase x) nd.2 fun z hz => (List.mem_erase_of_ne (fun e => nd.1 (by rw [← e]; exact hz))).mpr (h z (List.mem_cons_of_mem _ hz))
    rw [List.length_erase_of_mem hx] at this
    have := List.length_pos_of_mem hx
    simp
    omega
theorem compL_maps {α : Type} {chk : Mm → Prop} {wc we : Env → Mm → (D → Mm → Prop) → Prop} {tg : Tg} {env : Env} (g f : α → D) : ∀ (xs : List α) (acc : List D) (M : Mm) (Q : List D → Mm → Prop), chk M →
    (∀ x ∈ xs, ∃ env', bindT tg (g x) M env = some env' ∧ (∀ P : D → Mm → Prop, P (.bl true) M → wc env' M P) ∧ ∀ P : D → Mm → Prop, P (f x) M → we env' M P) → Q (acc ++ xs.map f) M → compL chk wc we tg env (xs.map g) acc M Q
  | [], acc, M, Q, hc, _, hQ => ⟨hc, by simpa using hQ⟩
  | x :: r, acc, M, Q, hc, h, hQ => by
    obtain ⟨env', e, h1, h2⟩ := h x List.mem_cons_self
    refine ⟨hc, ?_⟩
    rw [e]
    refine h1 _ (h2 _ ?_)
    exact compL_maps g f r _ M Q hc (fun y hy => h y (List.mem_cons_of_mem _ hy)) (by simpa using hQ)
theorem compQ_maps {α : Type} {chk : List D → Mm → Prop} {wc we : Env → Mm → (D → Mm → Prop) → Prop} {tg : Tg} {env : Env} {M : Mm} {Q : List D → Mm → Prop} (xs : List α) (g f : α → D) (hl : xs.length ≤ sizeLine) (hc : chk (xs.map g) M)
    (h : ∀ x ∈ xs, ∃ env', bindT tg (g x) M env = some env' ∧ (∀ P : D → Mm → Prop, P (.bl true) M → wc env' M P) ∧ ∀ P : D → Mm → Prop, P (f x) M → we env' M P) (hQ : Q (xs.map f) M) : compQ chk wc we tg env (some (xs.map g)) M Q :=
  ⟨by rw [List.length_map]; exact hl, compL_maps g f xs [] M Q hc h (by simpa using hQ)⟩
end L3

set_option maxRecDepth 100000
set_option maxHeartbeats 4000000
namespace L3
open PySem L2
/-! ### what the head must tell of exception classes -/
def vtail : List Value := [.type "ValueError", .type "Exception", .type "BaseException", .type "object"]
structure XCls (K : PySem.W.Frag) (C : Addr) : Prop where
  i : PySem.W.isClsIn K C = true
  t : PySem.W.typeIn K (.ref C) = some (.type "type")
  e : ExcC K C
  bt : ∀ b ∈ btt, PySem.W.subIn K (.ref C) (.type b) = some (decide (b = "ValueError"))
theorem bt_all {K : PySem.W.Frag} {C : Addr} (h1 : PySem.W.subIn K (.ref C) (.type "bool") = some false) (h2 : PySem.W.subIn K (.ref C) (.type "int") = some false) (h3 : PySem.W.subIn K (.ref C) (.type "str") = some false) (h4 : PySem.W.subIn K (.ref C) (.type "list") = some false)
    (h5 : PySem.W.subIn K (.ref C) (.type "tuple") = some false) (h6 : PySem.W.subIn K (.ref C) (.type "dict") = some false) (h7 : PySem.W.subIn K (.ref C) (.type "ValueError") = some true) : ∀ b ∈ btt, PySem.W.subIn K (.ref C) (.type b) = some (decide (b = "ValueError")) := fun b hb => by
  simp only [btt, List.mem_cons, List.not_mem_nil, or_false] at hb
  rcases hb with rfl | rfl | rfl | rfl | rfl | rfl | rfl
  · exact h1
  · exact h2
  · exact h3
  · exact h4
  · exact h5
  · exact h6
  · exact h7
theorem meta_ok : ∀ b ∈ btt, PySem.W.kitMeta b = true := by decide +kernel
def tyAll : List Value → Bool
  | [] => true
  | .type _ :: r => tyAll r
  | _ :: _ => false
theorem mro_ok : ∀ b ∈ btn, ∃ l, fastBuiltinMro b = some l ∧ tyAll l = true := by
  have h : ∀ b ∈ btn, ((fastBuiltinMro b).any tyAll) = true := by decide +kernel
  intro b hb
  have := h b hb
  cases e : fastBuiltinMro b with
  | none => rw [e] at this; cases this
  | some l => rw [e] at this; exact ⟨l, rfl, this⟩
theorem tyAll_no {C : Addr} : ∀ {l : List Value}, tyAll l = true → l.contains (.ref C) = false
  | [], _ => rfl
  | v :: r, h => by
    cases v with
    | type n =>
      have ih := tyAll_no (C := C) (l := r) h
      rw [List.contains_cons, ih, Bool.or_false]
      rfl
    | _ => cases h
theorem kit_cls_of {K : PySem.W.Frag} {t : Value} {C : Addr} {b : Bool} (i : PySem.W.isClsIn K C = true) (ty : PySem.W.typeIn K (.ref C) = some (.type "type")) (s : PySem.W.subIn K t (.ref C) = some b) : PySem.W.kitCls K t (.ref C) = some b := by
  show (if ((PySem.W.clsIn K C).isSome && PySem.W.typeIn K (.ref C) == some (.type "type")) = true then PySem.W.subIn K t (.ref C) else none) = _
  have i' : (PySem.W.clsIn K C).isSome = true := i
  rw [i', ty]
  exact s
theorem kit_own {K : PySem.W.Frag} {D C : Addr} {b : Bool} (i : PySem.W.isClsIn K C = true) (ty : PySem.W.typeIn K (.ref C) = some (.type "type")) (s : PySem.W.subIn K (.ref D) (.ref C) = some b) (hs : D = C → b = true) : PySem.W.kitOne K (.ref D) (.ref C) = some b := by
  unfold PySem.W.kitOne
  by_cases e : D = C
  · subst e
    rw [if_pos (by simp), hs rfl]
  · rw [if_neg (by simpa using e)]
    exact kit_cls_of i ty s
/-- a law's cfg -/
def mkC (K : PySem.W.Frag) (xs ys : List (Nm × Addr)) (fl : List (Nm × List Nm)) : Cfg := { K := K, cls := lk xs, icls := lk ys, fl := fun n => (lk fl n).getD [] }
theorem lkm {α : Type} : ∀ {l : List (Nm × α)} {n : Nm} {d : α}, lk l n = some d → (n, d) ∈ l
  | [], _, _, h => by cases h
  | (a, b) :: r, n, d, h => by
    by_cases e : a = n
    · subst e
      have h : some b = some d := by rw [← h]; simp [lk]
      cases h
      exact List.mem_cons_self
    · have h : lk r n = some d := by rw [← h]; simp [lk, e]
      exact List.mem_cons_of_mem _ (lkm h)
/-- the module's facts, from the head's -/
theorem wok_of {K : PySem.W.Frag} {mg : PySem.Str → Option Value} {T : Tab} {xs ys : List (Nm × Addr)} (isn : T.isn = [])
    (bi : ∀ n ∈ bnames, mg n = none) (gl : ∀ n d, lk T.gl n = some d → ∃ u v, mg n.s = some u ∧ RelV v u ∧ ∀ Z H M, Rep ((mkC K xs ys T.fl).z Z) H M v d)
    (hx : ∀ p ∈ xs, XCls K p.2 ∧ mg p.1.s = some (.ref p.2) ∧ (lk T.sub p.1).isSome = true) (hxx : ∀ p ∈ xs, ∀ q ∈ xs, ∀ l, lk T.sub p.1 = some l → PySem.W.subIn K (.ref p.2) (.ref q.2) = some (decide (q.1 ∈ l)) ∧ (p.2 = q.2 → q.1 ∈ l))
    (hs : ∀ n l, lk T.sub n = some l → (lk xs n).isSome = true) (ho : ∀ n ∈ T.own, (lk xs n).isSome = true)
    (hy : ∀ p ∈ ys, Cls K p.2 ∧ (((lk T.fl p.1).getD []).map Nm.s).Nodup ∧ ∀ f ∈ (lk T.fl p.1).getD [], NoAttr K p.2 f.s)
    (hc : ∀ n fs, lk T.xc n = some fs → fs = [] ∧ ∃ C, lk xs n = some C ∧ PySem.W.excIn K C vtail "ValueError.__new__" = true ∧ PySem.W.keepIn K (.ref C) = true) : Wok K mg (mkC K xs ys T.fl) T where
  eK := rfl
  hot := rfl
  cur := rfl
  bi := bi
  gl := gl
  cls := fun n C h => (hy _ (lkm h)).1
  fl := fun n C h => (hy _ (lkm h)).2
  flT := fun n l h => by show (lk T.fl n).getD [] = l; rw [h]; rfl
  sub := hs
  own := ho
  icl := fun n C _ h => by rw [isn] at h; cases h
  clsG := fun n C h => (hx _ (lkm h)).2.1
  isO := fun n l h => by rw [isn] at h; cases h
  isI := fun m C h => by
    obtain ⟨x, _, s⟩ := hx _ (lkm h)
    refine ⟨fun b hb => ?_, fun b hb => ?_⟩
    · obtain ⟨l, e1, e2⟩ := mro_ok b hb
      show (if (Value.type b == Value.ref C) = true then some true else PySem.W.kitCls K (.type b) (.ref C)) = _
      have ne : (Value.type b == Value.ref C) = false := rfl
      rw [ne]
      refine kit_cls_of x.i x.t ?_
      show (fastBuiltinMro b).map (·.contains (.ref C)) = _
      rw [e1]
      show some (l.contains (.ref C)) = _
      rw [tyAll_no e2]
    · show (if (Value.ref C == Value.type b) = true then some true else if PySem.W.kitMeta b = true then PySem.W.subIn K (.ref C) (.type b) else none) = _
      have ne : (Value.ref C == Value.type b) = false := rfl
      rw [ne, meta_ok b hb]
      show PySem.W.subIn K (.ref C) (.type b) = _
      rw [x.bt b hb]
      simp [xcB, s]
  isX := fun n l hl C h => ⟨(hx _ (lkm h)).1.e, fun m C' h' => by
    obtain ⟨s1, s2⟩ := hxx _ (lkm h) _ (lkm h') l hl
    obtain ⟨x, _⟩ := hx _ (lkm h')
    exact kit_own x.i x.t s1 fun e => decide_eq_true (s2 e)⟩
  exm := fun n l hl C h m C' h' _ => by
    obtain ⟨s1, s2⟩ := hxx _ (lkm h) _ (lkm h') l hl
    obtain ⟨x, _⟩ := hx _ (lkm h')
    unfold PySem.W.exmOne
    rw [x.e.hs]
    exact kit_cls_of x.i x.t s1
  xc := fun n fs h => by
    obtain ⟨h0, C, h1, h2, h3⟩ := hc n fs h
    obtain ⟨x, _⟩ := hx _ (lkm h1)
    exact ⟨h0, C, _, _, vtail, _, h1, PySem.F.excBase_ValueError, h2, h3, x.e.hs, x.t⟩
/-! ### classes that isinstance is asked of -/
structure ICls (K : PySem.W.Frag) (C : Addr) : Prop where
  i : PySem.W.isClsIn K C = true
  t : PySem.W.typeIn K (.ref C) = some (.type "type")
  bt : ∀ b ∈ btt, PySem.W.subIn K (.ref C) (.type b) = some false
theorem bt_none {K : PySem.W.Frag} {C : Addr} (h1 : PySem.W.subIn K (.ref C) (.type "bool") = some false) (h2 : PySem.W.subIn K (.ref C) (.type "int") = some false) (h3 : PySem.W.subIn K (.ref C) (.type "str") = some false) (h4 : PySem.W.subIn K (.ref C) (.type "list") = some false)
    (h5 : PySem.W.subIn K (.ref C) (.type "tuple") = some false) (h6 : PySem.W.subIn K (.ref C) (.type "dict") = some false) (h7 : PySem.W.subIn K (.ref C) (.type "ValueError") = some false) : ∀ b ∈ btt, PySem.W.subIn K (.ref C) (.type b) = some false := fun b hb => by
  simp only [btt, List.mem_cons, List.not_mem_nil, or_false] at hb
  rcases hb with rfl | rfl | rfl | rfl | rfl | rfl | rfl
  · exact h1
  · exact h2
  · exact h3
  · exact h4
  · exact h5
  · exact h6
  · exact h7
theorem kit_self {K : PySem.W.Frag} {C : Addr} : PySem.W.kitOne K (.ref C) (.ref C) = some true := by
  unfold PySem.W.kitOne
  rw [if_pos (by simp)]
theorem isI_of {K : PySem.W.Frag} {C : Addr} (i : PySem.W.isClsIn K C = true) (t : PySem.W.typeIn K (.ref C) = some (.type "type")) : ∀ b ∈ btn, PySem.W.kitOne K (.type b) (.ref C) = some false := fun b hb => by
  obtain ⟨l, e1, e2⟩ := mro_ok b hb
  show (if (Value.type b == Value.ref C) = true then some true else PySem.W.kitCls K (.type b) (.ref C)) = _
  have ne : (Value.type b == Value.ref C) = false := rfl
  rw [ne]
  refine kit_cls_of i t ?_
  show (fastBuiltinMro b).map (·.contains (.ref C)) = _
  rw [e1]
  show some (l.contains (.ref C)) = _
  rw [tyAll_no e2]
theorem kit_bt {K : PySem.W.Frag} {C : Addr} {b : String} {r : Bool} (hb : b ∈ btt) (h : PySem.W.subIn K (.ref C) (.type b) = some r) : PySem.W.kitOne K (.ref C) (.type b) = some r := by
  show (if (Value.ref C == Value.type b) = true then some true else if PySem.W.kitMeta b = true then PySem.W.subIn K (.ref C) (.type b) else none) = _
  have ne : (Value.ref C == Value.type b) = false := rfl
  rw [ne, meta_ok b hb]
  exact h
/-- the module's facts, with classes of instances that isinstance is asked of -/
theorem wok_of2 {K : PySem.W.Frag} {mg : PySem.Str → Option Value} {T : Tab} {xs ys : List (Nm × Addr)}
    (bi : ∀ n ∈ bnames, mg n = none) (gl : ∀ n d, lk T.gl n = some d → ∃ u v, mg n.s = some u ∧ RelV v u ∧ ∀ Z H M, Rep ((mkC K xs ys T.fl).z Z) H M v d)
    (hx : ∀ p ∈ xs, mg p.1.s = some (.ref p.2) ∧ (XCls K p.2 ∧ (lk T.sub p.1).isSome = true ∨ ICls K p.2 ∧ lk T.sub p.1 = none))
    (hxx : ∀ p ∈ xs, ∀ l, (lk T.sub p.1 = some l ∨ lk T.isn p.1 = some l) → ∀ q ∈ xs, PySem.W.subIn K (.ref p.2) (.ref q.2) = some (decide (q.1 ∈ l)) ∧ (p.2 = q.2 → q.1 ∈ l))
    (hi : ∀ p ∈ xs, (lk T.isn p.1).isSome = true → C8.InsC K p.2)
    (hs : ∀ n l, lk T.sub n = some l → (lk xs n).isSome = true) (ho : ∀ n ∈ T.own, (lk xs n).isSome = true)
    (hy : ∀ p ∈ ys, Cls K p.2 ∧ (((lk T.fl p.1).getD []).map Nm.s).Nodup ∧ ∀ f ∈ (lk T.fl p.1).getD [], NoAttr K p.2 f.s)
    (hyi : ∀ n C, lk ys n = some C → (lk T.isn n).isSome = true → lk xs n = some C)
    (hc : ∀ n fs, lk T.xc n = some fs → fs = [] ∧ ∃ C, lk xs n = some C ∧ XCls K C ∧ PySem.W.excIn K C vtail "ValueError.__new__" = true ∧ PySem.W.keepIn K (.ref C) = true) : Wok K mg (mkC K xs ys T.fl) T where
  eK := rfl
  hot := rfl
  cur := rfl
  bi := bi
  gl := gl
  cls := fun n C h => (hy _ (lkm h)).1
  fl := fun n C h => (hy _ (lkm h)).2
  flT := fun n l h => by show (lk T.fl n).getD [] = l; rw [h]; rfl
  sub := hs
  own := ho
  icl := hyi
  clsG := fun n C h => (hx _ (lkm h)).1
  isO := fun n l h C hC => ⟨hi _ (lkm hC) (by show (lk T.isn n).isSome = true; rw [h]; rfl), fun m C' h' => by
    obtain ⟨s1, s2⟩ := hxx _ (lkm hC) l (.inr h) _ (lkm h')
    rcases (hx _ (lkm h')).2 with ⟨x, _⟩ | ⟨x, _⟩
    · exact kit_own x.i x.t s1 fun e => decide_eq_true (s2 e)
    · exact kit_own x.i x.t s1 fun e => decide_eq_true (s2 e)⟩
  isI := fun m C h => by
    rcases (hx _ (lkm h)).2 with ⟨x, s⟩ | ⟨x, s⟩
    · refine ⟨isI_of x.i x.t, fun b hb => ?_⟩
      rw [kit_bt hb (x.bt b hb)]
      simp [xcB, s]
    · refine ⟨isI_of x.i x.t, fun b hb => ?_⟩
      rw [kit_bt hb (x.bt b hb)]
      simp [xcB, s]
  isX := fun n l hl C h => by
    have e : XCls K C := by
      rcases (hx _ (lkm h)).2 with ⟨x, _⟩ | ⟨_, s⟩
      · exact x
      · exact absurd (s.symm.trans hl) (by simp)
    refine ⟨e.e, fun m C' h' => ?_⟩
    obtain ⟨s1, s2⟩ := hxx _ (lkm h) l (.inl hl) _ (lkm h')
    rcases (hx _ (lkm h')).2 with ⟨x, _⟩ | ⟨x, _⟩
    · exact kit_own x.i x.t s1 fun e => decide_eq_true (s2 e)
    · exact kit_own x.i x.t s1 fun e => decide_eq_true (s2 e)
  exm := fun n l hl C h m C' h' hm => by
    obtain ⟨s1, s2⟩ := hxx _ (lkm h) l (.inl hl) _ (lkm h')
    rcases (hx _ (lkm h')).2 with ⟨x, _⟩ | ⟨_, s⟩
    · unfold PySem.W.exmOne
      rw [x.e.hs]
      exact kit_cls_of x.i x.t s1
    · exact absurd hm (by show ¬ (lk T.sub m).isSome = true; rw [show lk T.sub m = none from s]; simp)
  xc := fun n fs h => by
    obtain ⟨h0, C, h1, x, h2, h3⟩ := hc n fs h
    exact ⟨h0, C, _, _, vtail, _, h1, PySem.F.excBase_ValueError, h2, h3, x.e.hs, x.t⟩
/-- the law's own promise, as the end wants it -/
def spEnd (K : PySem.W.Frag) : Sp := fun vs H Q _ => ∃ (a : Addr) (ns : List Int), vs = [.ref a] ∧ SqL K H a (ns.map V.int) ∧ ns.length ≤ 63 ∧ ∀ H', Q (.bl true) H'
def spScript : SpD := fun ds M Q E => ∃ (t : Bool) (ns : List Int), ds = [.ro t (ns.map .int)] ∧ ns.length ≤ 63 ∧ ∀ M', Q (.bl true) M'
theorem end_of {K : PySem.W.Frag} {xs ys : List (Nm × Addr)} {fl : List (Nm × List Nm)} : ∀ vs H Q E, spEnd K vs H Q E → toSp (mkC K xs ys fl) spScript vs H Q E := by
  rintro vs H Q E ⟨a, ns, rfl, hS, hl, hQ⟩
  refine ⟨fun _ => False, [.ro false (ns.map .int)], fun _ => none, fun d _ => d = .bl true, fun _ _ => False, .cons (.roL (vs := ns.map V.int) ?_ (by rw [List.length_map]; exact Nat.le_trans hl (by decide)) (Reps.mapI ns)) .nil, ⟨(fun _ _ h => nomatch h), (fun _ h => h.elim)⟩, ⟨false, ns, rfl, hl, fun _ => rfl⟩, fun v H' d M' s ok r q => ?_, fun _ _ _ _ _ _ _ _ q => q.elim⟩
  · exact hS.imp (fun h => ⟨h, rfl, fun z => z⟩) id
  · subst q
    rw [rep_bl r]
    exact hQ H'
theorem cx_never {P : Program} {w : World} (H : Hp) (s : Shared) (e : Value) (s' : Shared) (h : L2.CX P w [] H s (fun _ _ _ => False) e s') : False := by
  obtain ⟨_, _, _, _, _, _, _, _, _, _, _, _, z⟩ := h
  exact z
theorem FnG.of {P : Program} {w : World} {K : PySem.W.Frag} {mg : PySem.Str → Option Value} {base : Heap} {c : Cfg} {j k : Nat} {n : Nm} {sp : SpD} {x qual : PySem.Str} {st : Stmt} {f : Addr} {fd : FuncData} {ps : List PySem.Str} (h : FnOk P w K mg base (L2.CX P w) j f fd ps (toSp c sp)) (F : Fun K x qual st f fd) (hm : mg n.s = some (.ref f)) (hb : Binds K fd ps []) (hk : j ≤ k) : FnG P w K mg base c k n sp :=
  ⟨f, fd, ps, h.mono hk, hm, F.kp, hb⟩
/-- another table of defs -/
theorem Wok.tab {K : PySem.W.Frag} {mg : PySem.Str → Option Value} {c : Cfg} {T : Tab} (h : Wok K mg c T) (fn : List (Nm × SpD)) (mt : List (Nm × Nm × SpD)) (cl : List (Nm × SpD)) : Wok K mg c { T with fn := fn, mt := mt, cl := cl } :=
  ⟨h.eK, h.hot, h.cur, h.bi, h.gl, h.cls, h.fl, h.flT, h.sub, h.own, h.icl, h.clsG, h.isO, h.isI, h.isX, h.exm, h.xc⟩
theorem lkm2 {α : Type} : ∀ {l : List (Nm × Nm × α)} {n m : Nm} {d : α}, lk2 l n m = some d → (n, m, d) ∈ l
  | [], _, _, _, h => by cases h
  | (a, a', b) :: r, n, m, d, h => by
    by_cases e : a = n ∧ a' = m
    · obtain ⟨rfl, rfl⟩ := e
      have h : some b = some d := by rw [← h]; simp [lk2]
      cases h
      exact List.mem_cons_self
    · have h : lk2 r n m = some d := by rw [← h]; simp [lk2, e]
      exact List.mem_cons_of_mem _ (lkm2 h)
theorem tok_of {P : Program} {w : World} {K : PySem.W.Frag} {mg : PySem.Str → Option Value} {base : Heap} {c : Cfg} {T : Tab} {k : Nat} (hf : ∀ p ∈ T.fn, FnG P w K mg base c (k + 1) p.1 p.2) (hm : ∀ p ∈ T.mt, MtG P w K mg base c (k + 1) p.1 p.2.1 p.2.2) (hc : ∀ p ∈ T.cl, MkG P w K mg base c k p.1 p.2) : Tok P w K mg base c T (k + 1) :=
  ⟨fun n sp e => hf _ (lkm e), fun n m sp e => hm _ (lkm2 e), fun n sp e => ⟨hc _ (lkm e), Nat.succ_pos _⟩⟩
end L3

set_option maxRecDepth 100000
set_option maxHeartbeats 4000000
namespace L3.K01
open PySem L2
def N_is_whole : List PySem.Str := ["thing"]
def b_is_whole : List SS := [
  .ret (.bop true [(.isi (.var 0) false [.bt "int"]), (.not (.isi (.var 0) false [.bt "bool"]))])]
def P_is_whole : List PySem.Str := ["thing"]
theorem k_is_whole : okSs false none b_is_whole = true := by decide +kernel
def N_are_hands : List PySem.Str := ["thing", "at", "hand"]
def b_are_hands : List SS := [
  .ifs (.bop false [(.not (.isi (.var 0) false [.bt "list"])), (.not (.chain .LtE .LtE (.int 1) (.bi false .len [(.var 0)]) (.gl .«MOST_HANDS»)))]) [.ret (.bl false)] [],
  .ifs (.not (.bi false .all [(.comp false (.nm 2) .seq [(.var 0)] (.bl true) (.bop true [(.call false .«is_whole» [(.var 2)]), (.chain .LtE .LtE (.int 0) (.var 2) (.gl .«MOST_NUMBER»))]))])) [.ret (.bl false)] [],
  .ret (.bi false .all [(.comp false (.nm 1) .rng1 [(.bin .Sub (.bi false .len [(.var 0)]) (.int 1))] (.bl true) (.cmp .Lt (.ix (.var 0) (.var 1)) (.ix (.var 0) (.bin .Add (.var 1) (.int 1)))))])]
def P_are_hands : List PySem.Str := ["thing"]
theorem k_are_hands : okSs false none b_are_hands = true := by decide +kernel
def N_is_line : List PySem.Str := ["hands", "thing"]
def b_is_line : List SS := [
  .ifs (.bop false [(.not (.isi (.var 1) false [.bt "tuple"])), (.cmp .NotEq (.bi false .len [(.var 1)]) (.int 2)), (.not (.call false .«is_whole» [(.ix (.var 1) (.int 0))])), (.not (.call false .«is_whole» [(.ix (.var 1) (.int 1))]))]) [.ret (.bl false)] [],
  .ret (.bop true [(.cmp .In (.ix (.var 1) (.int 0)) (.var 0)), (.cmp .In (.ix (.var 1) (.int 1)) (.var 0)), (.cmp .Lt (.ix (.var 1) (.int 0)) (.ix (.var 1) (.int 1)))])]
def P_is_line : List PySem.Str := ["hands", "thing"]
theorem k_is_line : okSs false none b_is_line = true := by decide +kernel
def N_are_lines : List PySem.Str := ["hands", "thing", "at", "line"]
def b_are_lines : List SS := [
  .ifs (.bop false [(.not (.isi (.var 1) false [.bt "list"])), (.not (.bi false .all [(.comp false (.nm 3) .seq [(.var 1)] (.bl true) (.call false .«is_line» [(.var 0), (.var 3)]))]))]) [.ret (.bl false)] [],
  .ret (.bi false .all [(.comp false (.tp [2, 3]) .enum [(.var 1)] (.bl true) (.cmp .NotIn (.var 3) (.sl (.var 1) .non (.var 2))))])]
def P_are_lines : List PySem.Str := ["hands", "thing"]
theorem k_are_lines : okSs false none b_are_lines = true := by decide +kernel
def N_Web___init__ : List PySem.Str := ["self", "hands", "lines", "hand", "one", "other"]
def b_Web___init__ : List SS := [
  .ifs (.bop false [(.not (.call false .«are_hands» [(.var 1)])), (.not (.call false .«are_lines» [(.var 1), (.var 2)]))]) [.raise .«NoWeb» [(.str "no web")]] [],
  .asgF (.var 0) .«own_hands» (.bi false .list [(.var 1)]),
  .asgF (.var 0) .«own_lines» (.bi false .sorted [(.var 2)]),
  .asgF (.var 0) .«sides» (.dnew true false),
  .fors (.nm 3) .seq [(.var 1)] [.asgI (.fld (.var 0) .«sides») (.var 3) (.lst true [])],
  .fors (.tp [4, 5]) .seq [(.fld (.var 0) .«own_lines»)] [.exp (.bm false (.ix (.fld (.var 0) .«sides») (.var 4)) .append [(.var 5)]), .exp (.bm false (.ix (.fld (.var 0) .«sides») (.var 5)) .append [(.var 4)])]]
def P_Web___init__ : List PySem.Str := ["self", "hands", "lines"]
theorem k_Web___init__ : okSs false none b_Web___init__ = true := by decide +kernel
def N_Web_hands : List PySem.Str := ["self"]
def b_Web_hands : List SS := [
  .ret (.bi true .list [(.fld (.var 0) .«own_hands»)])]
def P_Web_hands : List PySem.Str := ["self"]
theorem k_Web_hands : okSs false none b_Web_hands = true := by decide +kernel
def N_Web_lines : List PySem.Str := ["self"]
def b_Web_lines : List SS := [
  .ret (.bi true .list [(.fld (.var 0) .«own_lines»)])]
def P_Web_lines : List PySem.Str := ["self"]
theorem k_Web_lines : okSs false none b_Web_lines = true := by decide +kernel
def N_Web_has_hand : List PySem.Str := ["self", "hand"]
def b_Web_has_hand : List SS := [
  .ret (.bop true [(.call false .«is_whole» [(.var 1)]), (.cmp .In (.var 1) (.fld (.var 0) .«sides»))])]
def P_Web_has_hand : List PySem.Str := ["self", "hand"]
theorem k_Web_has_hand : okSs false none b_Web_has_hand = true := by decide +kernel
def N_Web_has_line : List PySem.Str := ["self", "one", "other"]
def b_Web_has_line : List SS := [
  .ret (.bop true [(.meth false (.var 0) .«has_hand» [(.var 1)]), (.meth false (.var 0) .«has_hand» [(.var 2)]), (.cmp .In (.var 2) (.ix (.fld (.var 0) .«sides») (.var 1)))])]
def P_Web_has_line : List PySem.Str := ["self", "one", "other"]
theorem k_Web_has_line : okSs false none b_Web_has_line = true := by decide +kernel
def N_Web_neighbours : List PySem.Str := ["self", "hand"]
def b_Web_neighbours : List SS := [
  .ifs (.not (.meth false (.var 0) .«has_hand» [(.var 1)])) [.raise .«NoHand» [(.str "no hand of the web")]] [],
  .ret (.bi true .sorted [(.ix (.fld (.var 0) .«sides») (.var 1))])]
def P_Web_neighbours : List PySem.Str := ["self", "hand"]
theorem k_Web_neighbours : okSs false none b_Web_neighbours = true := by decide +kernel
def N__law_cell_at : List PySem.Str := ["_law_script", "_law_k"]
def b__law_cell_at : List SS := [
  .ifs (.cmp .Lt (.var 1) (.bi false .len [(.var 0)])) [.ret (.ix (.var 0) (.var 1))] [],
  .ret (.int 0)]
def P__law_cell_at : List PySem.Str := ["_law_script", "_law_k"]
theorem k__law_cell_at : okSs false none b__law_cell_at = true := by decide +kernel
def N__law_digit : List PySem.Str := ["_law_state", "_law_base", "_law_number", "_law_cell", "_law_found"]
def b__law_digit : List SS := [
  .ifs (.cmp .Eq (.bi false .len [(.var 0)]) (.int 1)) [.asg 3 (.ix (.var 0) (.int 0)), .asgI (.var 0) (.int 0) (.bin .Mult (.var 3) (.bi false .int [(.cmp .GtE (.var 3) (.bin .Pow (.int 10) (.int 18)))])), .exp (.bm false (.var 0) .extend [(.lst false [(.bin .Mod (.var 3) (.int 2147483647)), (.int 0)])])] [],
  .ifs (.cmp .Gt (.ix (.var 0) (.int 0)) (.int 0)) [.asg 4 (.bin .Mod (.ix (.var 0) (.int 0)) (.var 1)), .asgI (.var 0) (.int 0) (.bin .FloorDiv (.ix (.var 0) (.int 0)) (.var 1)), .ret (.var 4)] [],
  .asgI (.var 0) (.int 2) (.bin .Add (.ix (.var 0) (.int 2)) (.int 1)),
  .asg 2 (.bin .Mod (.bin .Mult (.bin .Add (.bin .Add (.ix (.var 0) (.int 1)) (.bin .Mult (.int 7919) (.ix (.var 0) (.int 2)))) (.int 1)) (.int 48271)) (.int 2147483647)),
  .asg 2 (.bin .Mod (.bin .Mult (.var 2) (.bin .Add (.bin .FloorDiv (.var 2) (.int 1009)) (.int 69621))) (.int 2147483647)),
  .ret (.bin .Mod (.bin .Mod (.bin .Mult (.var 2) (.bin .Add (.bin .FloorDiv (.var 2) (.int 2003)) (.int 40692))) (.int 2147483399)) (.var 1))]
def P__law_digit : List PySem.Str := ["_law_state", "_law_base"]
theorem k__law_digit : okSs false none b__law_digit = true := by decide +kernel
def N__law_web : List PySem.Str := ["_law_state", "_law_hands", "_law_low", "_law_k", "_law_lines", "_law_thin", "_law_one", "_law_turn", "_law_more", "_law_other", "_law_hand"]
def b__law_web : List SS := [
  .asg 1 (.lst true []),
  .asg 2 (.int 0),
  .fors (.nm 3) .rng1 [(.bin .Add (.int 1) (.call false .«_law_digit» [(.var 0), (.int 12)]))] [.asg 8 (.ix (.lst false [(.int 1), (.int 1), (.int 2), (.int 8)]) (.call false .«_law_digit» [(.var 0), (.int 4)])), .asg 2 (.bi false .min [(.bin .Add (.var 2) (.var 8)), (.bin .Add (.int 88) (.var 3))]), .exp (.bm false (.var 1) .append [(.var 2)])],
  .ifs (.cmp .Eq (.call false .«_law_digit» [(.var 0), (.int 3)]) (.int 0)) [.asg 1 (.comp true (.nm 10) .seq [(.var 1)] (.bl true) (.bin .Sub (.var 10) (.ix (.var 1) (.int 0))))] [],
  .asg 4 (.lst true []),
  .asg 5 (.bin .Add (.int 1) (.call false .«_law_digit» [(.var 0), (.int 6)])),
  .fors (.nm 6) .seq [(.var 1)] [.fors (.nm 9) .seq [(.var 1)] [.ifs (.bop true [(.cmp .Lt (.var 6) (.var 9)), (.cmp .Eq (.call false .«_law_digit» [(.var 0), (.var 5)]) (.int 0))]) [.exp (.bm false (.var 4) .append [(.tup [(.var 6), (.var 9)])])] []]],
  .asg 7 (.call false .«_law_digit» [(.var 0), (.bin .Add (.bi false .len [(.var 4)]) (.int 1))]),
  .ret (.tup [(.var 1), (.bin .Add (.sl (.var 4) (.var 7) .non) (.sl (.var 4) .non (.var 7)))])]
def P__law_web : List PySem.Str := ["_law_state"]
theorem k__law_web : okSs false none b__law_web = true := by decide +kernel
end L3.K01

set_option maxRecDepth 100000
set_option maxHeartbeats 4000000
local macro_rules
  | `(tactic| walk_at "side") => `(tactic| first
      | assumption
      | omega
      | exact L3.cpow_ok _ (by decide)
      | exact L3.cmulL (by omega) (by omega)
      | exact L3.cmulR (by omega) (by omega)
      | exact L3.cmulR (by split <;> omega) (by split <;> omega)
      | exact L3.cdiv_lt (by omega) (by omega)
      | exact Nat.le_trans (show _ ≤ 1000 by simp) (by decide)
      | exact Nat.le_trans (by assumption) (by decide))
  | `(tactic| walk_at "go") => `(tactic| (repeat (refine L3.cnd_intro (by walk_at "side") ?_; try simp [L2.ixN])))
namespace L3.K01
open PySem L2
/-! ### contracts -/
def stOk (st : List Int) : Prop := (∃ x, st = [x]) ∨ ∃ x s n, st = [x, s, n]
def spDigit : SpD := fun ds M Q E => ∃ a st base, ds = [.ref a, .int base] ∧ 0 < base ∧ base < 2 ^ 110 ∧ M a = some (.lst (st.map .int)) ∧ stOk st ∧ ∀ r st', 0 ≤ r → r < base → stOk st' → Q (.int r) (up M a (.lst (st'.map .int)))
variable {c : Cfg}
theorem cnd_of {P A : Prop} (h : P) : cnd P A = A := by unfold cnd; simp [h]
theorem w_digit {T : Tab} : ∀ ds M Q E, spDigit ds M Q E → wSs T b__law_digit (fnK c Q E) (env0 N__law_digit.length ds) M := by
  rintro _ M Q E ⟨a, st, base, rfl, hb, hb2, hM, hst, hQ⟩
  have fin : ∀ r x s n, 0 ≤ r → r < base → (fnK c Q E).rt (.int r) (up M a (.lst [.int x, .int s, .int n])) := fun r x s n h1 h2 => rt_self (hQ r [x, s, n] h1 h2 (.inr ⟨x, s, n, rfl⟩))
  have md : ∀ z : Int, 0 ≤ z % base ∧ z % base < base := fun z => ⟨Int.emod_nonneg _ (by omega), Int.emod_lt_of_pos _ hb⟩
  rcases hst with ⟨x, rfl⟩ | ⟨x, s, n, rfl⟩
  · simp [b__law_digit, N__law_digit, env0, hM, varE, ixN]
    walk_at "go"
    refine br_dec (fun h => ?_) (fun h => ?_)
    · walk_at "go"
      exact fin _ _ _ _ (md _).1 (md _).2
    · walk_at "go"
      exact fin _ _ _ _ (md _).1 (md _).2
  · simp [b__law_digit, N__law_digit, env0, hM, varE, ixN]
    refine br_dec (fun h => ?_) (fun h => ?_)
    · walk_at "go"
      exact fin _ _ _ _ (md _).1 (md _).2
    · walk_at "go"
      exact fin _ _ _ _ (md _).1 (md _).2
/-- the place of a script -/
def spCell : SpD := fun ds M Q E => ∃ (t : Bool) (ns : List Int) (k : Nat), ds = [.ro t (ns.map .int), .int k] ∧ ∀ x, Q (.int x) M
theorem w_cell {T : Tab} : ∀ ds M Q E, spCell ds M Q E → wSs T b__law_cell_at (fnK c Q E) (env0 N__law_cell_at.length ds) M := by
  rintro _ M Q E ⟨t, ns, k, rfl, hQ⟩
  simp [b__law_cell_at, N__law_cell_at, env0, varE]
  refine br_dec (fun h => ?_) (fun h => ?_)
  · have h' : k < ns.length := by simpa using h
    have := atI_of h'
    simp at this
    rw [this]
    exact rt_self (hQ _)
  · exact rt_self (hQ _)
/-! ### whole numbers, hands, lines -/
def wholeB : D → Bool
  | .int _ => true
  | _ => false
def spWhole : SpD := fun ds M Q E => ∃ d, ds = [d] ∧ plainB d = true ∧ Q (.bl (wholeB d)) M
theorem w_whole {T : Tab} : ∀ ds M Q E, spWhole ds M Q E → wSs T b_is_whole (fnK c Q E) (env0 N_is_whole.length ds) M := by
  rintro _ M Q E ⟨d, rfl, ht, hQ⟩
  cases d <;> simp [b_is_whole, N_is_whole, env0, varE] <;> first | exact rt_self hQ | cases ht
def HandsOk (hs : List Int) : Prop := 0 < hs.length ∧ hs.length ≤ 12 ∧ hs.Pairwise (· < ·) ∧ ∀ h ∈ hs, 0 ≤ h ∧ h ≤ 99
class TH (T : Tab) : Prop where
  h1 : lk T.gl .MOST_HANDS = some (.int 12)
  h2 : lk T.gl .MOST_NUMBER = some (.int 99)
  h3 : lk T.fn .is_whole = some spWhole
@[simp] theorem th1 {T : Tab} [h : TH T] : lk T.gl .MOST_HANDS = some (.int 12) := h.h1
@[simp] theorem th2 {T : Tab} [h : TH T] : lk T.gl .MOST_NUMBER = some (.int 99) := h.h2
@[simp] theorem th3 {T : Tab} [h : TH T] : lk T.fn .is_whole = some spWhole := h.h3
class TF (T : Tab) : Prop where
  h3 : lk T.fn .is_whole = some spWhole
@[simp] theorem tf3 {T : Tab} [h : TF T] : lk T.fn .is_whole = some spWhole := h.h3
def spHandsOk : SpD := fun ds M Q E => ∃ (d : D) (hs : List Int), ds = [d] ∧ Arg M d (hs.map .int) ∧ HandsOk hs ∧ Q (.bl true) M
theorem w_hands {T : Tab} [hT : TH T] : ∀ ds M Q E, spHandsOk ds M Q E → wSs T b_are_hands (fnK c Q E) (env0 N_are_hands.length ds) M := by
  rintro _ M Q E ⟨d, hs, rfl, hA, ⟨h1, h2, h3, h4⟩, hQ⟩
  have hM := hA.f
  have l1 : (1 : Int) ≤ hs.length := by omega
  have l2 : (hs.length : Int) ≤ 12 := by omega
  have a1 : isA T M d [.bt "list"] = some true := by rw [hM.isa]; rfl
  have sz : (hs.map D.int).length ≤ sizeLine := small (by simp; omega)
  have sz2 : (rngL 0 (hs.length - 1)).length ≤ sizeLine := small (by simp [rngL]; omega)
  have it : itD .rng1 [.int ((hs.length : Int) - 1)] M = some (rngL 0 (hs.length - 1)) := by rw [itD_rng1 (by omega) (by omega)]; congr 2; omega
  simp [b_are_hands, N_are_hands, env0, varE, hM.seq, hM.len, a1, l1, l2]
  refine compQ_map (fun _ => .bl true) sz (?_) (fun x hx => ?_) ?_
  · exact hM.seq
  · obtain ⟨h, hh, rfl⟩ := List.mem_map.mp hx
    obtain ⟨g1, g2⟩ := h4 h hh
    refine ⟨_, rfl, fun P hP => hP, fun P hP => ?_⟩
    simp
    exact ⟨_, rfl, rfl, by simp [wholeB, g1, g2]; exact hP⟩
  · simp [boolsD_all, hM.len, it]
    refine compQ_map (fun _ => .bl true) sz2 ?_ (fun x hx => ?_) ?_
    · exact it
    · obtain ⟨i, hi, rfl⟩ := mem_rng hx
      have i1 : i < hs.length := by omega
      have i2 : i + 1 < hs.length := by omega
      have e1 := atI_of i1
      have e2 := atI_of i2
      have e3 : hs[i] < hs[i + 1] := List.pairwise_iff_getElem.mp h3 i (i + 1) i1 i2 (by omega)
      refine ⟨_, rfl, fun P hP => hP, fun P hP => ?_⟩
      simp at e1 e2
      simp [hM.ix, e1, e2, e3]
      exact hP
    · simp [boolsD_all]
      exact rt_self hQ
def LinesOk (hs : List Int) (ls : List (Int × Int)) : Prop := ls.Nodup ∧ ls.length ≤ 200 ∧ ∀ p ∈ ls, p.1 ∈ hs ∧ p.2 ∈ hs ∧ p.1 < p.2
def spLineOk : SpD := fun ds M Q E => ∃ (d : D) (hs : List Int) (p : Int × Int), ds = [d, prD p] ∧ Arg M d (hs.map .int) ∧ p.1 ∈ hs ∧ p.2 ∈ hs ∧ p.1 < p.2 ∧ Q (.bl true) M
theorem w_line {T : Tab} [hT : TF T] : ∀ ds M Q E, spLineOk ds M Q E → wSs T b_is_line (fnK c Q E) (env0 N_is_line.length ds) M := by
  rintro _ M Q E ⟨d, hs, ⟨x, y⟩, rfl, hA, h1, h2, h3, hQ⟩
  have i1 := hA.f.ints x
  have i2 := hA.f.ints y
  simp at h1 h2 h3
  simp [b_is_line, N_is_line, env0, varE, prD]
  refine ⟨_, rfl, rfl, ?_⟩
  simp [wholeB]
  refine ⟨_, rfl, rfl, ?_⟩
  simp [wholeB, i1, i2, h1, h2, h3]
  exact rt_self hQ
class TL (T : Tab) : Prop where
  h3 : lk T.fn .is_line = some spLineOk
@[simp] theorem tl3 {T : Tab} [h : TL T] : lk T.fn .is_line = some spLineOk := h.h3
def spLinesOk : SpD := fun ds M Q E => ∃ (d e : D) (hs : List Int) (ls : List (Int × Int)), ds = [d, e] ∧ Arg M d (hs.map .int) ∧ Arg M e (ls.map prD) ∧ LinesOk hs ls ∧ Q (.bl true) M
theorem w_lines {T : Tab} [hT : TL T] : ∀ ds M Q E, spLinesOk ds M Q E → wSs T b_are_lines (fnK c Q E) (env0 N_are_lines.length ds) M := by
  rintro _ M Q E ⟨d, e, hs, ls, rfl, hA, hB, ⟨h1, h2, h3⟩, hQ⟩
  have hN := hB.f
  have a1 : isA T M e [.bt "list"] = some true := by rw [hN.isa]; rfl
  have sz : (ls.map prD).length ≤ sizeLine := small (by simp; omega)
  have sz2 : (enumFrom 0 (ls.map prD)).length ≤ sizeLine := small (by rw [enum_size]; simp; omega)
  have it : itD .enum [e] M = some (enumFrom 0 (ls.map prD)) := itD_enum hN.lst
  simp [b_are_lines, N_are_lines, env0, varE, hN.seq, a1]
  refine compQ_map (fun _ => .bl true) sz (?_) (fun x hx => ?_) ?_
  · exact hN.seq
  · obtain ⟨p, hp, rfl⟩ := List.mem_map.mp hx
    obtain ⟨g1, g2, g3⟩ := h3 p hp
    refine ⟨_, rfl, fun P hP => hP, fun P hP => ?_⟩
    simp
    exact ⟨_, hs, p, rfl, hA, g1, g2, g3, by simp; exact hP⟩
  · simp [boolsD_all]
    rw [it]
    refine compQ_map (fun _ => .bl true) sz2 ?_ (fun x hx => ?_) ?_
    · exact it
    · obtain ⟨i, d', e1, rfl⟩ := mem_enum hx
      rw [List.getElem?_map] at e1
      cases e2 : ls[i]? with
      | none => rw [e2] at e1; cases e1
      | some p =>
        rw [e2] at e1
        cases e1
        have hi := (List.getElem?_eq_some_iff.mp e2).1
        have hp := (List.getElem?_eq_some_iff.mp e2).2
        refine ⟨_, rfl, fun P hP => hP, fun P hP => ?_⟩
        have ct : cut (ls.map prD) none (some (i : Int)) = (ls.take i).map prD := by rw [cut_take (by omega) (by simp; omega)]; simp
        have no : p ∉ ls.take i := fun hm => by
          obtain ⟨j, hj, ej⟩ := List.getElem_of_mem hm
          simp at hj ej
          have := (List.nodup_iff_pairwise_ne.mp h1)
          exact absurd (ej.trans hp.symm) (List.pairwise_iff_getElem.mp this j i (by omega) hi (by omega))
        have iq : inQ (prD p) (.lst (List.take i (ls.map prD))) M = fun Q => Q false := by funext Q; rw [← List.map_take, in_prs]; simp [no]
        simp [hN.sl, ct, iq]
        exact hP
    · simp [boolsD_all]
      exact rt_self hQ
/-! ### a web -/
/-- the sides of a hand, as the lines come -/
def sideL : List (Int × Int) → Int → List Int
  | [], _ => []
  | (a, b) :: r, h => if a = h then b :: sideL r h else if b = h then a :: sideL r h else sideL r h
def srtL (ls : List (Int × Int)) : List (Int × Int) := ls.mergeSort leP
def webD (hs : List Int) (ls : List (Int × Int)) : D := .ins .Web [(.own_hands, .lst (hs.map .int)), (.own_lines, .lst ((srtL ls).map prD)), (.sides, .dct false (hs.map fun h => (.int h, .lst ((sideL (srtL ls) h).map .int))))]
/-- a line between two hands, in either order -/
def joinB (ls : List (Int × Int)) (a b : Int) : Bool := decide ((a, b) ∈ ls) || decide ((b, a) ∈ ls)
theorem mem_side {ls : List (Int × Int)} {h z : Int} (hl : ∀ p ∈ ls, p.1 < p.2) : z ∈ sideL ls h ↔ joinB ls h z = true := by
  induction ls with
  | nil => simp [sideL, joinB]
  | cons p r ih =>
    obtain ⟨a, b⟩ := p
    have hab : a < b := hl _ List.mem_cons_self
    have ih := ih fun p hp => hl p (List.mem_cons_of_mem _ hp)
    unfold sideL
    simp only [joinB, Bool.or_eq_true, decide_eq_true_eq] at ih ⊢
    by_cases h1 : a = h
    · subst h1
      simp only [if_true, List.mem_cons, ih, Prod.mk.injEq, true_and]
      constructor
      · rintro (e | e | e)
        · exact .inl (.inl e)
        · exact .inl (.inr e)
        · exact .inr (.inr e)
      · rintro ((e | e) | (⟨e1, e2⟩ | e))
        · exact .inl e
        · exact .inr (.inl e)
        · omega
        · exact .inr (.inr e)
    · by_cases h2 : b = h
      · subst h2
        simp only [if_neg h1, if_true, List.mem_cons, ih, Prod.mk.injEq, and_true]
        constructor
        · rintro (e | e | e)
          · exact .inr (.inl e)
          · exact .inl (.inr e)
          · exact .inr (.inr e)
        · rintro ((⟨e1, e2⟩ | e) | (e | e))
          · omega
          · exact .inr (.inl e)
          · exact .inl e
          · exact .inr (.inr e)
      · simp only [if_neg h1, if_neg h2, List.mem_cons, ih, Prod.mk.injEq]
        constructor
        · rintro (e | e)
          · exact .inl (.inr e)
          · exact .inr (.inr e)
        · rintro ((⟨e1, e2⟩ | e) | (⟨e1, e2⟩ | e))
          · exact absurd e1.symm h1
          · exact .inl e
          · exact absurd e2.symm h2
          · exact .inr e
theorem nd_side {ls : List (Int × Int)} {h : Int} (nd : ls.Nodup) (hl : ∀ p ∈ ls, p.1 < p.2) : (sideL ls h).Nodup := by
  induction ls with
  | nil => exact List.nodup_nil
  | cons p r ih =>
    obtain ⟨a, b⟩ := p
    have hab : a < b := hl _ List.mem_cons_self
    have hr : ∀ p ∈ r, p.1 < p.2 := fun p hp => hl p (List.mem_cons_of_mem _ hp)
    rw [List.nodup_cons] at nd
    have ih := ih nd.2 hr
    unfold sideL
    by_cases h1 : a = h
    · subst h1
      rw [if_pos rfl, List.nodup_cons]
      refine ⟨fun hm => ?_, ih⟩
      rw [mem_side hr] at hm
      simp only [joinB, Bool.or_eq_true, decide_eq_true_eq] at hm
      rcases hm with e | e
      · exact nd.1 e
      · have := hr _ e; simp at this; omega
    · rw [if_neg h1]
      by_cases h2 : b = h
      · subst h2
        rw [if_pos rfl, List.nodup_cons]
        refine ⟨fun hm => ?_, ih⟩
        rw [mem_side hr] at hm
        simp only [joinB, Bool.or_eq_true, decide_eq_true_eq] at hm
        rcases hm with e | e
        · have := hr _ e; simp at this; omega
        · exact nd.1 e
      · rw [if_neg h2]; exact ih
theorem srt_mem {ls : List (Int × Int)} {p : Int × Int} : p ∈ srtL ls ↔ p ∈ ls := (List.mergeSort_perm ls _).mem_iff
theorem srt_nd {ls : List (Int × Int)} (h : ls.Nodup) : (srtL ls).Nodup := (List.mergeSort_perm ls _).nodup_iff.mpr h
theorem join_srt {ls : List (Int × Int)} {a b : Int} : joinB (srtL ls) a b = joinB ls a b := by simp [joinB, srt_mem]
/-- the sides of a hand, rising -/
theorem side_sort {hs : List Int} {ls : List (Int × Int)} (ho : hs.Pairwise (· < ·)) (lo : LinesOk hs ls) (h : Int) : ((sideL (srtL ls) h).mergeSort fun a b => decide (a ≤ b)) = hs.filter fun z => joinB ls h z := by
  obtain ⟨nd, _, hl⟩ := lo
  have hl' : ∀ p ∈ srtL ls, p.1 < p.2 := fun p hp => (hl p (srt_mem.mp hp)).2.2
  refine sort_eq (nd_side (srt_nd nd) hl') (ho.filter _) fun z => ?_
  rw [mem_side hl', join_srt, List.mem_filter]
  refine ⟨fun hj => ⟨?_, hj⟩, fun hj => hj.2⟩
  simp only [joinB, Bool.or_eq_true, decide_eq_true_eq] at hj
  rcases hj with e | e
  · exact (hl _ e).2.1
  · exact (hl _ e).1
end L3.K01

set_option maxRecDepth 100000
set_option maxHeartbeats 4000000
namespace L3.K01
open PySem L2
variable {c : Cfg}
theorem web_f1 {hs : List Int} {ls : List (Int × Int)} {M : Mm} : fldD M (webD hs ls) .own_hands = some (.lst (hs.map .int)) := rfl
theorem web_f2 {hs : List Int} {ls : List (Int × Int)} {M : Mm} : fldD M (webD hs ls) .own_lines = some (.lst ((srtL ls).map prD)) := rfl
theorem web_f3 {hs : List Int} {ls : List (Int × Int)} {M : Mm} : fldD M (webD hs ls) .sides = some (.dct false (hs.map fun h => (.int h, .lst ((sideL (srtL ls) h).map .int)))) := rfl
theorem web_i {hs : List Int} {ls : List (Int × Int)} {M : Mm} : insD M (webD hs ls) = some (.Web, [(.own_hands, .lst (hs.map .int)), (.own_lines, .lst ((srtL ls).map prD)), (.sides, .dct false (hs.map fun h => (.int h, .lst ((sideL (srtL ls) h).map .int))))]) := rfl
def spHands : SpD := fun ds M Q E => ∃ hs ls, ds = [webD hs ls] ∧ ∀ a, M a = none → Q (.ref a) (up M a (.lst (hs.map .int)))
theorem w_whands {T : Tab} : ∀ ds M Q E, spHands ds M Q E → wSs T b_Web_hands (fnK c Q E) (env0 N_Web_hands.length ds) M := by
  rintro _ M Q E ⟨hs, ls, rfl, hQ⟩
  simp [b_Web_hands, N_Web_hands, env0, varE, web_f1]
  exact fun a ha => rt_self (hQ a ha)
def spLines : SpD := fun ds M Q E => ∃ hs ls, ds = [webD hs ls] ∧ ∀ a, M a = none → Q (.ref a) (up M a (.lst ((srtL ls).map prD)))
theorem w_wlines {T : Tab} : ∀ ds M Q E, spLines ds M Q E → wSs T b_Web_lines (fnK c Q E) (env0 N_Web_lines.length ds) M := by
  rintro _ M Q E ⟨hs, ls, rfl, hQ⟩
  simp [b_Web_lines, N_Web_lines, env0, varE, web_f2]
  exact fun a ha => rt_self (hQ a ha)
def handB (hs : List Int) : D → Bool
  | .int i => decide (i ∈ hs)
  | _ => false
def spHas : SpD := fun ds M Q E => ∃ hs ls d, ds = [webD hs ls, d] ∧ plainB d = true ∧ Q (.bl (handB hs d)) M
theorem in_sides {i : Int} {hs : List Int} {g : Int → D} {M : Mm} {Q : Bool → Prop} : inQ (.int i) (.dct false (hs.map fun h => (.int h, g h))) M Q = Q (decide (i ∈ hs)) := by
  show cnd (keyOk false (.int i) = true) (Q (getK (hs.map fun h => (D.int h, g h)) (.int i)).isSome) = _
  have e : (getK (hs.map fun h => (D.int h, g h)) (.int i)).isSome = decide (i ∈ hs) := by
    rw [getK_ints (fun h => h) g i hs, Option.isSome_map]
    have : (hs.find? fun x => decide (x = i)).isSome = decide (i ∈ hs) := by
      rw [Bool.eq_iff_iff]
      simp [List.find?_isSome]
    exact this
  rw [e]
  simp [keyOk]
theorem ix_sides {i : Int} {hs : List Int} {g : Int → D} {M : Mm} {Q : D → Prop} (h : i ∈ hs) : ixD (.dct false (hs.map fun h => (.int h, g h))) (.int i) M Q = Q (g i) := by
  show cnd (keyOk false (.int i) = true) (obn (getK (hs.map fun h => (D.int h, g h)) (.int i)) Q) = _
  have e : getK (hs.map fun h => (D.int h, g h)) (.int i) = some (g i) := by
    rw [getK_ints (fun h => h) g i hs]
    have : (hs.find? fun x => decide (x = i)) = some i := by
      cases e : hs.find? fun x => decide (x = i) with
      | none =>
        rw [List.find?_eq_none] at e
        exact absurd (decide_eq_true rfl) (e i h)
      | some j =>
        have := List.find?_some e
        simp at this
        rw [this]
    rw [this]; rfl
  rw [e]
  simp [keyOk]
theorem w_has {T : Tab} [hT : TF T] : ∀ ds M Q E, spHas ds M Q E → wSs T b_Web_has_hand (fnK c Q E) (env0 N_Web_has_hand.length ds) M := by
  rintro _ M Q E ⟨hs, ls, d, rfl, hp, hQ⟩
  simp [b_Web_has_hand, N_Web_has_hand, env0, varE]
  refine ⟨d, rfl, hp, ?_⟩
  cases d <;> simp [wholeB, web_f3, in_sides] <;> exact rt_self hQ
class TM (T : Tab) : Prop where
  h3 : lk2 T.mt .Web .has_hand = some spHas
@[simp] theorem tm1 {T : Tab} [h : TM T] : lk2 T.mt .Web .has_hand = some spHas := h.h3
def lineB (hs : List Int) (ls : List (Int × Int)) : D → D → Bool
  | .int i, .int j => decide (i ∈ hs) && decide (j ∈ hs) && joinB ls i j
  | _, _ => false
def spHasLine : SpD := fun ds M Q E => ∃ hs ls d e, ds = [webD hs ls, d, e] ∧ plainB d = true ∧ plainB e = true ∧ LinesOk hs ls ∧ Q (.bl (lineB hs ls d e)) M
theorem w_hasline {T : Tab} [hT : TM T] : ∀ ds M Q E, spHasLine ds M Q E → wSs T b_Web_has_line (fnK c Q E) (env0 N_Web_has_line.length ds) M := by
  rintro _ M Q E ⟨hs, ls, d, e, rfl, hd, he, lo, hQ⟩
  simp [b_Web_has_line, N_Web_has_line, env0, varE, web_i]
  refine ⟨hs, ls, d, rfl, hd, ?_⟩
  simp
  have hl' : ∀ p ∈ srtL ls, p.1 < p.2 := fun p hp => (lo.2.2 p (srt_mem.mp hp)).2.2
  refine br_cases (fun h1 => ?_) (fun h1 => ?_)
  · refine ⟨hs, ls, e, rfl, he, ?_⟩
    simp
    refine br_cases (fun h2 => ?_) (fun h2 => ?_)
    · cases d with
      | int i => cases e with
        | int j =>
          simp [handB] at h1 h2
          have e1 : decide (j ∈ sideL (srtL ls) i) = joinB ls i j := by
            rw [Bool.eq_iff_iff, decide_eq_true_eq, mem_side hl', join_srt]
          have : lineB hs ls (.int i) (.int j) = joinB ls i j := by simp [lineB, h1, h2]
          rw [this] at hQ
          simp [web_f3, ix_sides h1, e1]
          exact rt_self hQ
        | _ => cases h2
      | _ => cases h1
    · rw [h2]
      have : lineB hs ls d e = false := by
        cases d <;> try rfl
        cases e <;> try rfl
        simp [handB] at h2
        simp [lineB, h2]
      rw [this] at hQ
      exact rt_self hQ
  · rw [h1]
    have : lineB hs ls d e = false := by
      cases d <;> try rfl
      cases e <;> try rfl
      simp [handB] at h1
      simp [lineB, h1]
    rw [this] at hQ
    exact rt_self hQ
def spNear : SpD := fun ds M Q E => ∃ hs ls d, ds = [webD hs ls, d] ∧ plainB d = true ∧ HandsOk hs ∧ LinesOk hs ls ∧
  (∀ i, d = .int i → i ∈ hs → ∀ a, M a = none → Q (.ref a) (up M a (.lst ((hs.filter fun z => joinB ls i z).map .int)))) ∧ (handB hs d = false → E ⟨.NoHand, []⟩ M)
theorem w_near {T : Tab} [hT : TM T] (x1 : lk T.xc .NoHand = some []) : ∀ ds M Q E, spNear ds M Q E → wSs T b_Web_neighbours (fnK c Q E) (env0 N_Web_neighbours.length ds) M := by
  rintro _ M Q E ⟨hs, ls, d, rfl, hd, ho, lo, hQ, hE⟩
  simp [b_Web_neighbours, N_Web_neighbours, env0, varE, web_i]
  refine ⟨hs, ls, d, rfl, hd, ?_⟩
  simp
  cases h : handB hs d with
  | false =>
    simp
    simp [x1]
    exact ⟨M, Sub.refl, hE h⟩
  | true =>
    cases d with
    | int i =>
      simp [handB] at h
      simp [web_f3, ix_sides h, srt_ints, side_sort ho.2.2.1 lo]
      exact fun a ha => rt_self (hQ i rfl h a ha)
    | _ => cases h
end L3.K01

set_option maxRecDepth 100000
set_option maxHeartbeats 4000000
namespace L3.K01
open PySem L2
variable {c : Cfg}
def spWeb : SpD := fun ds M Q E => ∃ (a b : D) (hs : List Int) (ls : List (Int × Int)), ds = [a, b] ∧ Arg M a (hs.map .int) ∧ Arg M b (ls.map prD) ∧ HandsOk hs ∧ LinesOk hs ls ∧ Q (webD hs ls) M
class TI (T : Tab) : Prop where
  h1 : lk T.fn .are_hands = some spHandsOk
  h2 : lk T.fn .are_lines = some spLinesOk
  h3 : lk T.fl .Web = some [.own_hands, .own_lines, .sides]
@[simp] theorem ti1 {T : Tab} [h : TI T] : lk T.fn .are_hands = some spHandsOk := h.h1
@[simp] theorem ti2 {T : Tab} [h : TI T] : lk T.fn .are_lines = some spLinesOk := h.h2
@[simp] theorem ti3 {T : Tab} [h : TI T] : lk T.fl .Web = some [.own_hands, .own_lines, .sides] := h.h3
theorem side_app {p : List (Int × Int)} {a b h : Int} : sideL (p ++ [(a, b)]) h = sideL p h ++ (if a = h then [b] else if b = h then [a] else []) := by
  induction p with
  | nil => by_cases h1 : a = h <;> by_cases h2 : b = h <;> simp [sideL, h1, h2]
  | cons q r ih =>
    obtain ⟨x, y⟩ := q
    by_cases h1 : x = h <;> by_cases h2 : y = h <;> simp [sideL, h1, h2, ih]
/-- the instance, while its sides are made -/
def insW (hs : List Int) (ls : List (Int × Int)) (s : Addr) : Cell := .ins .Web [(.own_hands, .lst (hs.map .int)), (.own_lines, .lst ((srtL ls).map prD)), (.sides, .ref s)]
/-- between two turns -/
structure Mid (M : Mm) (x s : Addr) (hs : List Int) (ls : List (Int × Int)) (ps : List (Int × Addr)) (pre : List (Int × Int)) (M2 : Mm) : Prop where
  cx : M2 x = some (insW hs ls s)
  cs : M2 s = some (.dct false (ps.map fun p => (.int p.1, .ref p.2)))
  cp : ∀ p ∈ ps, M2 p.2 = some (.lst ((sideL pre p.1).map .int))
  nd : (ps.map (·.2)).Nodup
  fr : ∀ p ∈ ps, M p.2 = none ∧ p.2 ≠ x ∧ p.2 ≠ s
  xs : x ≠ s
  Mx : M x = none
  Ms : M s = none
  off : ∀ b, b ≠ x → b ≠ s → (∀ p ∈ ps, b ≠ p.2) → M2 b = M b
theorem Mid.old {M : Mm} {x s : Addr} {hs : List Int} {ls : List (Int × Int)} {ps : List (Int × Addr)} {pre : List (Int × Int)} {M2 : Mm} (m : Mid M x s hs ls ps pre M2) {b : Addr} {y : Cell} (h : M b = some y) : M2 b = some y := by
  rw [← h]
  refine m.off b (fun e => ?_) (fun e => ?_) (fun p hp e => ?_)
  · rw [e, m.Mx] at h; cases h
  · rw [e, m.Ms] at h; cases h
  · rw [e, (m.fr p hp).1] at h; cases h
theorem putK_app {ps : List (Int × Addr)} {h : Int} {n : Addr} (hn : h ∉ ps.map (·.1)) : putK (ps.map fun p => (D.int p.1, D.ref p.2)) (.int h) (.ref n) = (ps ++ [(h, n)]).map fun p => (D.int p.1, D.ref p.2) := by
  have : ((ps.map fun p => (D.int p.1, D.ref p.2)).any fun p => eqKey p.1 (.int h)) = false := by
    rw [List.any_eq_false]
    intro q hq
    obtain ⟨p, hp, rfl⟩ := List.mem_map.mp hq
    simp [eqKey]
    exact fun e => hn (List.mem_map.mpr ⟨p, hp, e⟩)
  unfold putK
  rw [this]
  simp
/-- one side put in -/
theorem Mid.add {M : Mm} {x s : Addr} {hs : List Int} {ls : List (Int × Int)} {ps : List (Int × Addr)} {M2 : Mm} (m : Mid M x s hs ls ps [] M2) {h : Int} {n : Addr} (hn : M2 n = none) :
    Mid M x s hs ls (ps ++ [(h, n)]) [] (up (up M2 n (.lst [])) s (.dct false ((ps ++ [(h, n)]).map fun p => (D.int p.1, D.ref p.2)))) := by
  have nx : n ≠ x := fun e => by rw [e, m.cx] at hn; cases hn
  have ns : n ≠ s := fun e => by rw [e, m.cs] at hn; cases hn
  have np : ∀ p ∈ ps, p.2 ≠ n := fun p hp e => by rw [← e, m.cp p hp] at hn; cases hn
  have nM : M n = none := by
    cases e : M n with
    | none => rfl
    | some y => rw [m.old e] at hn; cases hn
  refine ⟨?_, up_same, fun p hp => ?_, ?_, fun p hp => ?_, m.xs, m.Mx, m.Ms, fun b h1 h2 h3 => ?_⟩
  · rw [up_ne m.xs, up_ne (Ne.symm nx)]; exact m.cx
  · rcases List.mem_append.mp hp with hp | hp
    · rw [up_ne (m.fr p hp).2.2, up_ne (np p hp)]; exact m.cp p hp
    · simp at hp; subst hp
      rw [up_ne ns, up_same]; rfl
  · rw [List.map_append, List.nodup_append]
    refine ⟨m.nd, by simp, fun a ha b hb e => ?_⟩
    obtain ⟨p, hp, rfl⟩ := List.mem_map.mp ha
    simp at hb
    exact np p hp (e.trans hb)
  · rcases List.mem_append.mp hp with hp | hp
    · exact m.fr p hp
    · simp at hp; subst hp; exact ⟨nM, nx, ns⟩
  · rw [up_ne h2, up_ne (fun e => h3 (h, n) (by simp) e)]
    exact m.off b h1 h2 fun p hp => h3 p (List.mem_append_left _ hp)
theorem find_ps {ps : List (Int × Addr)} {h : Int} (hm : h ∈ ps.map (·.1)) : ∃ p ∈ ps, p.1 = h ∧ getK (ps.map fun p => (D.int p.1, D.ref p.2)) (.int h) = some (.ref p.2) := by
  rw [getK_ints (fun p : Int × Addr => p.1) (fun p => .ref p.2) h ps]
  obtain ⟨q, hq, e⟩ := List.mem_map.mp hm
  cases e' : ps.find? fun p => decide (p.1 = h) with
  | none =>
    rw [List.find?_eq_none] at e'
    exact absurd (decide_eq_true e) (e' q hq)
  | some p =>
    have := List.find?_some e'
    simp at this
    exact ⟨p, List.mem_of_find?_eq_some e', this, rfl⟩
theorem Mid.ins {M : Mm} {x s : Addr} {hs : List Int} {ls : List (Int × Int)} {ps : List (Int × Addr)} {pre : List (Int × Int)} {M2 : Mm} (m : Mid M x s hs ls ps pre M2) : fldD M2 (.ref x) .own_lines = some (.lst ((srtL ls).map prD)) ∧ fldD M2 (.ref x) .sides = some (.ref s) := by
  have : insD M2 (.ref x) = some (.Web, [(.own_hands, .lst (hs.map .int)), (.own_lines, .lst ((srtL ls).map prD)), (.sides, .ref s)]) := by simp [insD, m.cx, insW]
  constructor <;> (unfold fldD; rw [this]; rfl)
theorem inj_nd {α β : Type} {f : α → β} : ∀ {xs : List α}, (xs.map f).Nodup → ∀ {a b : α}, a ∈ xs → b ∈ xs → f a = f b → a = b
  | [], _, _, _, h, _, _ => by cases h
  | x :: r, nd, a, b, ha, hb, e => by
    simp only [List.map_cons, List.nodup_cons] at nd
    rcases List.mem_cons.mp ha with h1 | h1
    · rcases List.mem_cons.mp hb with h2 | h2
      · rw [h1, h2]
      · exact absurd (List.mem_map.mpr ⟨b, h2, by rw [← e, h1]⟩) nd.1
    · rcases List.mem_cons.mp hb with h2 | h2
      · exact absurd (List.mem_map.mpr ⟨a, h1, by rw [e, h2]⟩) nd.1
      · exact inj_nd nd.2 h1 h2 e
/-- a line put to both sides -/
theorem Mid.line {M : Mm} {x s : Addr} {hs : List Int} {ls : List (Int × Int)} {ps : List (Int × Addr)} {pre : List (Int × Int)} {M2 : Mm} (m : Mid M x s hs ls ps pre M2) (nk : (ps.map (·.1)).Nodup) {p q : Int × Addr} (hp : p ∈ ps) (hq : q ∈ ps) (ne : p.1 ≠ q.1) :
    q.2 ≠ p.2 ∧ Mid M x s hs ls ps (pre ++ [(p.1, q.1)]) (up (up M2 p.2 (.lst ((sideL pre p.1).map .int ++ [.int q.1]))) q.2 (.lst ((sideL pre q.1).map .int ++ [.int p.1]))) := by
  have npq : q.2 ≠ p.2 := fun e => ne (by rw [inj_nd m.nd hq hp e])
  obtain ⟨p1, p2, p3⟩ := m.fr p hp
  obtain ⟨q1, q2, q3⟩ := m.fr q hq
  refine ⟨npq, ?_, ?_, fun r hr => ?_, m.nd, m.fr, m.xs, m.Mx, m.Ms, fun b h1 h2 h3 => ?_⟩
  · rw [up_ne (Ne.symm q2), up_ne (Ne.symm p2)]; exact m.cx
  · rw [up_ne (Ne.symm q3), up_ne (Ne.symm p3)]; exact m.cs
  · rw [side_app]
    by_cases e1 : r = p
    · subst e1
      rw [up_ne (Ne.symm npq), up_same]; simp
    · have k1 : p.1 ≠ r.1 := fun e => e1 (inj_nd nk hr hp e.symm)
      by_cases e2 : r = q
      · subst e2
        rw [up_same, if_neg k1, if_pos rfl]; simp
      · have k2 : q.1 ≠ r.1 := fun e => e2 (inj_nd nk hr hq e.symm)
        rw [if_neg k1, if_neg k2, List.append_nil, up_ne fun e => e2 (inj_nd m.nd hr hq e), up_ne fun e => e1 (inj_nd m.nd hr hp e)]
        exact m.cp r hr
  · rw [up_ne (h3 q hq), up_ne (h3 p hp)]
    exact m.off b h1 h2 h3
theorem fz_ints {n : Nat} {M : Mm} (is : List Int) : (is.map D.int).map (fz n M) = is.map D.int := by
  rw [List.map_map]
  refine List.map_congr_left fun i _ => ?_
  cases n <;> rfl
theorem fz_prs {n : Nat} {M : Mm} (ps : List (Int × Int)) : (ps.map prD).map (fz n M) = ps.map prD := by
  rw [List.map_map]
  refine List.map_congr_left fun i _ => ?_
  cases n with
  | zero => rfl
  | succ n => cases n <;> rfl
theorem rf_ints {n : Nat} {M : Mm} (is : List Int) : (is.map D.int).flatMap (rf n M) = [] := by
  rw [List.flatMap_eq_nil_iff]
  intro d hd
  obtain ⟨i, _, rfl⟩ := List.mem_map.mp hd
  cases n <;> rfl
theorem rf_prs {n : Nat} {M : Mm} (ps : List (Int × Int)) : (ps.map prD).flatMap (rf n M) = [] := by
  rw [List.flatMap_eq_nil_iff]
  intro d hd
  obtain ⟨i, _, rfl⟩ := List.mem_map.mp hd
  cases n with
  | zero => rfl
  | succ n => cases n <;> rfl
/-- the instance made, read as data -/
theorem Mid.frz {M : Mm} {x s : Addr} {hs : List Int} {ls : List (Int × Int)} {ps : List (Int × Addr)} {M2 : Mm} (m : Mid M x s hs ls ps (srtL ls) M2) (hk : ps.map (·.1) = hs) : Frz c (.ref x) M2 (webD hs ls) M := by
  have sb : Sub M M2 := fun a y e => m.old e
  have e : fz 4 M2 (.ref x) = webD hs ls := by
    have e1 : fz 3 M2 (.ref s) = .dct false (ps.map fun p => (D.int p.1, .lst ((sideL (srtL ls) p.1).map .int))) := by
      unfold fz
      rw [m.cs]
      show D.dct false ((ps.map fun p => (D.int p.1, D.ref p.2)).map fun p => (p.1, fz 2 M2 p.2)) = _
      rw [List.map_map]
      congr 1
      refine List.map_congr_left fun p hp => ?_
      show (D.int p.1, fz 2 M2 (.ref p.2)) = _
      have : fz 2 M2 (.ref p.2) = .lst ((sideL (srtL ls) p.1).map .int) := by
        unfold fz
        rw [m.cp p hp]
        show D.lst (((sideL (srtL ls) p.1).map D.int).map (fz 1 M2)) = _
        rw [fz_ints]
      rw [this]
    unfold fz
    rw [m.cx]
    show D.ins .Web [(.own_hands, .lst ((hs.map D.int).map (fz 2 M2))), (.own_lines, .lst (((srtL ls).map prD).map (fz 2 M2))), (.sides, fz 3 M2 (.ref s))] = _
    rw [fz_ints, fz_prs, e1]
    unfold webD
    rw [← hk, List.map_map (g := fun h => (D.int h, D.lst (List.map D.int (sideL (srtL ls) h))))]
    rfl
  rw [← e]
  refine Frz.deep 4 sb fun a ha => ?_
  have r1 : rf 4 M2 (.ref x) = x :: ((hs.map D.int).flatMap (rf 2 M2) ++ (((srtL ls).map prD).flatMap (rf 2 M2) ++ (rf 3 M2 (.ref s) ++ []))) := by
    conv => lhs; unfold rf
    rw [m.cx]
    rfl
  have r2 : rf 3 M2 (.ref s) = s :: (ps.map fun p => (D.int p.1, D.ref p.2)).flatMap fun p => rf 2 M2 p.2 := by
    conv => lhs; unfold rf
    rw [m.cs]
  rw [r1, rf_ints, rf_prs, r2] at ha
  simp only [List.nil_append, List.append_nil, List.mem_cons, List.mem_flatMap, List.mem_map] at ha
  rcases ha with rfl | rfl | ⟨q, ⟨p, hp, rfl⟩, ha⟩
  · exact m.Mx
  · exact m.Ms
  · have r3 : rf 2 M2 (.ref p.2) = [p.2] := by
      conv => lhs; unfold rf
      rw [m.cp p hp]
      show p.2 :: ((sideL (srtL ls) p.1).map D.int).flatMap (rf 1 M2) = _
      rw [rf_ints]
    rw [r3] at ha
    simp at ha
    rw [ha]
    exact (m.fr p hp).1
theorem fld_up {M : Mm} {n x : Addr} {y : Cell} {f : Nm} (h : x ≠ n) : fldD (up M n y) (.ref x) f = fldD M (.ref x) f := by
  have : insD (up M n y) (.ref x) = insD M (.ref x) := by
    show (match up M n y x with | some (.ins c fs) => some (c, fs) | _ => none) = _
    rw [up_ne h]; rfl
  unfold fldD
  rw [this]
theorem w_init {T : Tab} [hT : TI T] : ∀ x ds M Q E, spWeb ds M Q E → M x = none → wSs T b_Web___init__ (mkK c x Q E) (env0 N_Web___init__.length (.ref x :: ds)) (up M x (.ins .Web [])) := by
  rintro x _ M Q E ⟨a, b, hs, ls, rfl, ha, hb, ho, lo, hQ⟩ hx
  have ua : ∀ y, Arg (up M x y) a (hs.map .int) := fun y => ha.sub (Sub.refl.up hx)
  have ub : ∀ y, Arg (up M x y) b (ls.map prD) := fun y => hb.sub (Sub.refl.up hx)
  have qa := fun y => (ua y).f.dct
  have qb := fun y => (ua y).f.seq
  have qc := fun y => (ub y).f.lst
  simp [b_Web___init__, N_Web___init__, env0, varE]
  refine ⟨a, hs, rfl, ua _, ho, ?_⟩
  simp
  refine ⟨a, b, hs, ls, rfl, ua _, ub _, lo, ?_⟩
  simp [qa, qb, qc, srt_prs', putF]
  intro s hs0
  have xs : x ≠ s := fun e => by rw [← e, up_same] at hs0; cases hs0
  have hs1 : M s = none := by rw [up_ne (Ne.symm xs)] at hs0; exact hs0
  have m0 : ∀ A, Mid M x s hs ls [] [] (up (up (up M x A) s (.dct false [])) x (insW hs ls s)) := fun A => by
    refine ⟨up_same, ?_, (fun p hp => nomatch hp), List.nodup_nil, (fun p hp => nomatch hp), xs, hx, hs1, fun b h1 h2 _ => ?_⟩
    · rw [up_ne (Ne.symm xs), up_same]; rfl
    · rw [up_ne h1, up_ne h2, up_ne h1]
  have nd : hs.Nodup := ho.2.2.1.imp fun h => by omega
  have h12 := ho.2.1
  simp [up_ne xs, putF]
  refine forQ_start (items := hs.map .int) ?_ ?_
  · exact (ha.sub (fun b y h => (m0 _).old h)).f.seq
  refine forQ_ind (fun xs env M2 => ∃ rest ps h, xs = rest.map D.int ∧ hs = ps.map (·.1) ++ rest ∧ env = [some (.ref x), some a, some b, h, none, none] ∧ Mid M x s hs ls ps [] M2) ⟨hs, [], none, rfl, rfl, rfl, m0 _⟩ ?_ ?_ ?_
  · rintro _ _ M2 ⟨rest, ps, h, rfl, _, rfl, m⟩
    exact (ha.sub (fun b y h => m.old h)).f.seq
  · rintro _ xs' _ M2 F ⟨rest, ps, h, e, ee, rfl, m⟩ hF
    cases rest with
    | nil => cases e
    | cons z rest =>
      cases e
      refine ⟨_, rfl, ?_⟩
      intro n hn
      have xn : x ≠ n := fun e => by rw [← e, m.cx] at hn; cases hn
      have sn : s ≠ n := fun e => by rw [← e, m.cs] at hn; cases hn
      have zn : z ∉ ps.map (·.1) := fun hm => by
        rw [ee] at nd
        exact (List.nodup_append.mp nd).2.2 z hm z (by simp) rfl
      have lp : ps.length < sizeLine := by
        have : hs.length = ps.length + (rest.length + 1) := by rw [ee]; simp
        exact Nat.lt_of_lt_of_le (show ps.length < 1000 by omega) (by decide)
      simp [fld_up xn, m.ins.2, up_ne sn, m.cs, keyOk, putK_app zn]
      exact ⟨lp, hF _ _ ⟨rest, ps ++ [(z, n)], some (.int z), rfl, by rw [ee]; simp, rfl, by have := m.add hn (h := z); simpa using this⟩⟩
  · rintro _ M2 ⟨rest, ps, h, e, ee, rfl, m⟩
    have : rest = [] := by cases rest with
      | nil => rfl
      | cons _ _ => cases e
    subst this
    rw [List.append_nil] at ee
    simp [m.ins.1]
    have lp : ∀ p ∈ srtL ls, p.1 ∈ hs ∧ p.2 ∈ hs ∧ p.1 < p.2 := fun p hp => lo.2.2 p (srt_mem.mp hp)
    have nk : (ps.map (·.1)).Nodup := by rw [← ee]; exact nd
    have ll : (srtL ls).length ≤ 200 := by
      have : (srtL ls).length = ls.length := (List.mergeSort_perm ls leP).length_eq
      have := lo.2.1
      omega
    have sl : ∀ (pre : List (Int × Int)) (h : Int), (sideL pre h).length ≤ pre.length := fun pre h => by
      induction pre with
      | nil => exact Nat.le_refl _
      | cons p r ih =>
        obtain ⟨u, v⟩ := p
        unfold sideL
        split
        · simp; exact ih
        · split
          · simp; exact ih
          · simp; omega
    refine forQ_ind (fun xs env M2 => ∃ rest pre h g k, xs = rest.map prD ∧ srtL ls = pre ++ rest ∧ env = [some (.ref x), some a, some b, h, g, k] ∧ Mid M x s hs ls ps pre M2) ⟨srtL ls, [], h, none, none, rfl, rfl, rfl, m⟩ ?_ ?_ ?_
    · intros; rfl
    · rintro _ xs' _ M3 F ⟨rest, pre, h, g, k, e, e2, rfl, m⟩ hF
      cases rest with
      | nil => cases e
      | cons z rest =>
        obtain ⟨u, v⟩ := z
        cases e
        obtain ⟨u1, v1, uv⟩ := lp (u, v) (by rw [e2]; simp)
        rw [ee] at u1 v1
        obtain ⟨p, hp, rfl, gp⟩ := find_ps u1
        obtain ⟨q, hq, rfl, gq⟩ := find_ps v1
        obtain ⟨npq, m'⟩ := m.line nk hp hq (by simp at uv; omega)
        have sz : pre.length ≤ 200 := by
          have : (srtL ls).length = pre.length + (rest.length + 1) := by rw [e2]; simp
          omega
        have z1 : (sideL pre p.1).length < sizeLine := Nat.lt_of_lt_of_le (show _ < 1000 by have := sl pre p.1; omega) (by decide)
        have z2 : (sideL pre q.1).length < sizeLine := Nat.lt_of_lt_of_le (show _ < 1000 by have := sl pre q.1; omega) (by decide)
        refine ⟨_, rfl, ?_⟩
        have f1 := m.fr p hp
        simp [m.ins.2, m.cs, keyOk, gp, m.cp p hp, fld_up (Ne.symm f1.2.1), up_ne (Ne.symm f1.2.2), gq, up_ne npq, m.cp q hq]
        exact ⟨z1, z2, hF _ _ ⟨rest, pre ++ [(p.1, q.1)], h, _, _, rfl, by rw [e2]; simp, rfl, m'⟩⟩
    · rintro _ M3 ⟨rest, pre, h, g, k, e, e2, rfl, m⟩
      have : rest = [] := by cases rest with
        | nil => rfl
        | cons _ _ => cases e
      subst this
      rw [List.append_nil] at e2
      rw [← e2] at m
      exact ⟨_, _, m.frz ee.symm, hQ⟩
end L3.K01

set_option maxRecDepth 100000
set_option maxHeartbeats 4000000
namespace L3.K01
open PySem L2
variable {c : Cfg}
/-- the places that a def has made, beside the digits' state -/
structure LW (M : Mm) (a : Addr) (bs : List Addr) (M2 : Mm) : Prop where
  ca : ∃ st : List Int, stOk st ∧ M2 a = some (.lst (st.map .int))
  off : ∀ y, y ≠ a → y ∉ bs → M2 y = M y
  fr : ∀ y ∈ bs, M y = none ∧ y ≠ a
  th : ∀ y ∈ bs, M2 y ≠ none
theorem LW.dig {M : Mm} {a : Addr} {bs : List Addr} {M2 : Mm} (m : LW M a bs M2) {st : List Int} (h : stOk st) : LW M a bs (up M2 a (.lst (st.map .int))) :=
  ⟨⟨st, h, up_same⟩, fun y h1 h2 => by rw [up_ne h1]; exact m.off y h1 h2, m.fr, fun y hy => by rw [up_ne (m.fr y hy).2]; exact m.th y hy⟩
theorem LW.set {M : Mm} {a : Addr} {bs : List Addr} {M2 : Mm} (m : LW M a bs M2) {n : Addr} {y : Cell} (h : n ∈ bs) : LW M a bs (up M2 n y) := by
  have na := (m.fr n h).2
  obtain ⟨st, h1, h2⟩ := m.ca
  refine ⟨⟨st, h1, by rw [up_ne (Ne.symm na)]; exact h2⟩, fun z h1 h2 => by rw [up_ne (fun e => h2 (by rw [e]; exact h))]; exact m.off z h1 h2, m.fr, fun z hz => ?_⟩
  by_cases e : z = n
  · subst e; rw [up_same]; simp
  · rw [up_ne e]; exact m.th z hz
theorem LW.new {M : Mm} {a : Addr} {bs : List Addr} {M2 : Mm} (m : LW M a bs M2) {n : Addr} {y : Cell} (h : M2 n = none) : LW M a (n :: bs) (up M2 n y) ∧ n ≠ a ∧ n ∉ bs := by
  obtain ⟨st, h1, h2⟩ := m.ca
  have na : n ≠ a := fun e => by rw [e, h2] at h; cases h
  have nb : n ∉ bs := fun hn => m.th n hn h
  have nM : M n = none := by rw [← m.off n na nb]; exact h
  refine ⟨⟨⟨st, h1, by rw [up_ne (Ne.symm na)]; exact h2⟩, fun z h1 h2 => ?_, fun z hz => ?_, fun z hz => ?_⟩, na, nb⟩
  · simp only [List.mem_cons, not_or] at h2
    rw [up_ne h2.1]; exact m.off z h1 h2.2
  · rcases List.mem_cons.mp hz with rfl | hz
    · exact ⟨nM, na⟩
    · exact m.fr z hz
  · by_cases e : z = n
    · subst e; rw [up_same]; simp
    · rw [up_ne e]; exact m.th z ((List.mem_cons.mp hz).resolve_left e)
/-! ### pairs -/
def pairs (p hs : List Int) : List (Int × Int) := p.flatMap fun a => hs.map fun b => (a, b)
theorem pairs_app {p hs : List Int} {u : Int} : pairs (p ++ [u]) hs = pairs p hs ++ hs.map fun b => (u, b) := by simp [pairs]
theorem mem_pairs {p hs : List Int} {q : Int × Int} : q ∈ pairs p hs ↔ q.1 ∈ p ∧ q.2 ∈ hs := by
  simp only [pairs, List.mem_flatMap, List.mem_map]
  constructor
  · rintro ⟨a, ha, b, hb, rfl⟩; exact ⟨ha, hb⟩
  · rintro ⟨h1, h2⟩; exact ⟨q.1, h1, q.2, h2, rfl⟩
theorem nd_pairs {p hs : List Int} (hp : p.Nodup) (hh : hs.Nodup) : (pairs p hs).Nodup := by
  induction p with
  | nil => exact List.nodup_nil
  | cons u r ih =>
    rw [List.nodup_cons] at hp
    show (hs.map (fun b => (u, b)) ++ pairs r hs).Nodup
    rw [List.nodup_append]
    refine ⟨?_, ih hp.2, ?_⟩
    · exact List.Pairwise.map _ (fun a b h e => h (Prod.mk.inj e).2) hh
    · intro x hx y hy e
      obtain ⟨b, _, rfl⟩ := List.mem_map.mp hx
      subst e
      exact hp.1 (mem_pairs.mp hy).1
theorem len_pairs {p hs : List Int} : (pairs p hs).length = p.length * hs.length := by
  induction p with
  | nil => simp [pairs]
  | cons u r ih =>
    show (hs.map (fun b => (u, b)) ++ pairs r hs).length = _
    rw [List.length_append, List.length_map, ih, List.length_cons, Nat.succ_mul]
    omega
class TW (T : Tab) : Prop where
  h1 : lk T.fn ._law_digit = some spDigit
@[simp] theorem tw1 {T : Tab} [h : TW T] : lk T.fn ._law_digit = some spDigit := h.h1
def spLawWeb : SpD := fun ds M Q E => ∃ (a : Addr) (st : List Int), ds = [.ref a] ∧ M a = some (.lst (st.map .int)) ∧ stOk st ∧
  ∀ hs ls st', HandsOk hs → LinesOk hs ls → stOk st' → Q (.tup [.lst (hs.map .int), .lst (ls.map prD)]) (up M a (.lst (st'.map .int)))
def w1 : List SS := b__law_web.take 3
def w2 : List SS := b__law_web.drop 3
theorem w_split : b__law_web = w1 ++ w2 := rfl
theorem four {r : Int} (h : 0 ≤ r) (h2 : r < 4) : ∃ z, atI [D.int 1, D.int 1, D.int 2, D.int 8] r = some (.int z) ∧ 1 ≤ z := by
  have : r = 0 ∨ r = 1 ∨ r = 2 ∨ r = 3 := by omega
  rcases this with rfl | rfl | rfl | rfl
  · exact ⟨1, rfl, by omega⟩
  · exact ⟨1, rfl, by omega⟩
  · exact ⟨2, rfl, by omega⟩
  · exact ⟨8, rfl, by omega⟩
theorem w_lawweb1 {T : Tab} [hT : TW T] {M : Mm} {a : Addr} {st : List Int} {F : Env → Mm → Prop} {Kr : QD} {Ke : XD → Env → Mm → Prop} (ha : M a = some (.lst (st.map .int))) (hst : stOk st)
    (hF : ∀ b hs h2 h3 h8 M2, HandsOk hs → LW M a [b] M2 → M2 b = some (.lst (hs.map .int)) → F [some (.ref a), some (.ref b), h2, h3, none, none, none, none, h8, none, none] M2) :
    wSs T w1 { nx := F, rt := Kr, ex := Ke } (env0 N__law_web.length [.ref a]) M := by
  have m0 : LW M a [] M := ⟨⟨st, hst, ha⟩, fun _ _ _ => rfl, (fun _ h => nomatch h), (fun _ h => nomatch h)⟩
  simp [w1, b__law_web, N__law_web, env0, varE]
  intro b hb
  obtain ⟨m1, ba, _⟩ := m0.new (y := .lst []) hb
  refine ⟨a, st, 12, rfl, by omega, by omega, by rw [up_ne (Ne.symm ba)]; exact ha, hst, fun r st1 r1 r2 hs1 => ?_⟩
  have m2 := m1.dig hs1
  simp [itD_rng1 (show 1 + r < 2 ^ 62 by omega) (by omega)]
  generalize hn : (1 + r).toNat = n
  have hn1 : 1 ≤ n := by omega
  have hn2 : n ≤ 12 := by omega
  refine forQ_ind (fun xs env M2 => ∃ k hs low h3 h8, k ≤ n ∧ xs = (rngL 0 n).drop k ∧ hs.length = k ∧ hs.Pairwise (· < ·) ∧ (∀ h ∈ hs, 0 ≤ h ∧ h ≤ low) ∧ 0 ≤ low ∧ low ≤ 87 + (k : Int) ∧
    env = [some (.ref a), some (.ref b), some (.int low), h3, none, none, none, none, h8, none, none] ∧ LW M a [b] M2 ∧ M2 b = some (.lst (hs.map .int))) ⟨0, [], 0, none, none, by omega, rfl, rfl, List.Pairwise.nil, (fun _ h => nomatch h), by omega, by omega, rfl, m2, by rw [up_ne ba, up_same]; rfl⟩ ?_ ?_ ?_
  · intros; rfl
  · rintro x xs' _ M2 F' ⟨k, hs, low, h3, h8, hk, e, hl, hp, hh, l0, l1, rfl, m, hb⟩ hF'
    have hkn : k < n := by
      rcases Nat.lt_or_ge k n with h | h
      · exact h
      · have : (rngL 0 n).drop k = [] := List.drop_eq_nil_of_le (by rw [rng_len]; exact h)
        rw [this] at e; cases e
    rw [rng_drop hkn] at e
    cases e
    obtain ⟨st2, hs2, ha2⟩ := m.ca
    refine ⟨_, rfl, ?_⟩
    simp
    refine ⟨a, st2, 4, rfl, by omega, by omega, ha2, hs2, fun r' st3 q1 q2 hs3 => ?_⟩
    obtain ⟨z, ez, z1⟩ := four q1 q2
    have m3 := m.dig hs3
    have lh : hs.length < sizeLine := Nat.lt_of_lt_of_le (show hs.length < 1000 by omega) (by decide)
    simp [ez, up_ne ba, hb]
    refine ⟨lh, hF' _ _ ⟨k + 1, hs ++ [if 88 + (k : Int) < low + z then 88 + (k : Int) else low + z], _, _, _, hkn, rfl, by simp [hl], ?_, ?_, ?_, ?_, rfl, m3.set (by simp), by rw [up_same]; simp⟩⟩
    · rw [List.pairwise_append]
      refine ⟨hp, by simp, fun u hu v hv => ?_⟩
      simp at hv
      have := (hh u hu).2
      split at hv <;> omega
    · intro h hm
      rcases List.mem_append.mp hm with hm | hm
      · have := hh h hm
        split <;> omega
      · simp at hm
        split at hm <;> split <;> omega
    · split <;> omega
    · split <;> push_cast <;> omega
  · rintro _ M2 ⟨k, hs, low, h3, h8, hk, e, hl, hp, hh, l0, l1, rfl, m, hb⟩
    have : k = n := by
      have := congrArg List.length e
      rw [List.length_drop, rng_len] at this
      simp at this
      omega
    subst this
    exact hF b hs _ _ _ M2 ⟨by omega, by omega, hp, fun h hm => by have := hh h hm; omega⟩ m hb
def w2a : List SS := w2.take 1
def w3 : List SS := w2.drop 1
theorem w2_split : w2 = w2a ++ w3 := rfl
def subD (z : Int) : D → D
  | .int h => .int (h - z)
  | d => d
theorem w_lawweb2 {T : Tab} [hT : TW T] {M M2 : Mm} {a b : Addr} {hs : List Int} {h2 h3 h8 : Option D} {F : Env → Mm → Prop} {Kr : QD} {Ke : XD → Env → Mm → Prop} (ho : HandsOk hs) (m : LW M a [b] M2) (hb : M2 b = some (.lst (hs.map .int)))
    (hF : ∀ b hs bs M2, HandsOk hs → LW M a bs M2 → b ∈ bs → M2 b = some (.lst (hs.map .int)) → F [some (.ref a), some (.ref b), h2, h3, none, none, none, none, h8, none, none] M2) :
    wSs T w2a { nx := F, rt := Kr, ex := Ke } [some (.ref a), some (.ref b), h2, h3, none, none, none, none, h8, none, none] M2 := by
  simp [w2a, w2, b__law_web, varE]
  obtain ⟨st2, hs2, ha2⟩ := m.ca
  have ba : b ≠ a := (m.fr b (by simp)).2
  refine ⟨a, st2, 3, rfl, by omega, by omega, ha2, hs2, fun r' st3 q1 q2 hs3 => ?_⟩
  have m3 := m.dig hs3
  have hb3 : up M2 a (.lst (st3.map .int)) b = some (.lst (hs.map .int)) := by rw [up_ne ba]; exact hb
  simp
  refine br_cases (fun _ => ?_) (fun _ => hF b hs [b] _ ho m3 (by simp) hb3)
  obtain ⟨o1, o2, o3, o4⟩ := ho
  obtain ⟨z, r, rfl⟩ : ∃ z r, hs = z :: r := by cases hs with
    | nil => simp at o1
    | cons z r => exact ⟨z, r, rfl⟩
  simp [hb3]
  refine compQ_map (subD z) (small (by simp at o2 ⊢; omega)) ?_ (fun x hx => ?_) ?_
  · simp [hb3]
  · have : ∃ h, x = D.int h := by
      rcases List.mem_cons.mp hx with e | hx
      · exact ⟨z, e⟩
      · obtain ⟨h, _, e⟩ := List.mem_map.mp hx
        exact ⟨h, e.symm⟩
    obtain ⟨h, rfl⟩ := this
    refine ⟨_, rfl, fun P hP => hP, fun P hP => ?_⟩
    simp [hb3]
    exact hP
  · simp
    intro n hn
    obtain ⟨m4, na, nb⟩ := m3.new (y := .lst (subD z (.int z) :: (r.map D.int).map (subD z))) hn
    have e : (subD z (.int z) :: (r.map D.int).map (subD z)) = ((z :: r).map fun h => h - z).map D.int := by
      simp [subD]
    have hp := List.pairwise_cons.mp o3
    have ok : HandsOk ((z :: r).map fun h => h - z) := by
      refine ⟨by simp, by simpa using o2, List.Pairwise.map _ (fun u v h => by omega) o3, fun h hh => ?_⟩
      obtain ⟨u, hu, rfl⟩ := List.mem_map.mp hh
      have h1 := o4 u hu
      have h2 := o4 z List.mem_cons_self
      rcases List.mem_cons.mp hu with rfl | hu
      · omega
      · have := hp.1 u hu; omega
    have := hF n _ [n, b] _ ok (by rw [e] at m4; exact m4) (by simp) up_same
    have ec : (subD z ∘ D.int) = D.int ∘ fun h => h - z := rfl
    rw [ec]
    simpa [subD] using this
def w4 : List SS := w3.drop 3
def w3a : List SS := w3.take 3
theorem w3_split : w3 = w3a ++ w4 := rfl
theorem w_lawweb3 {T : Tab} [hT : TW T] {M M2 : Mm} {a b : Addr} {bs : List Addr} {hs : List Int} {h2 h3 h8 : Option D} {F : Env → Mm → Prop} {Kr : QD} {Ke : XD → Env → Mm → Prop} (ho : HandsOk hs) (m : LW M a bs M2) (hbm : b ∈ bs) (hb : M2 b = some (.lst (hs.map .int)))
    (hF : ∀ l ls h5 h6 h9 bs M2, LinesOk hs ls → LW M a bs M2 → b ∈ bs → l ∈ bs → l ≠ b → M2 b = some (.lst (hs.map .int)) → M2 l = some (.lst (ls.map prD)) → F [some (.ref a), some (.ref b), h2, h3, some (.ref l), h5, h6, none, h8, h9, none] M2) :
    wSs T w3a { nx := F, rt := Kr, ex := Ke } [some (.ref a), some (.ref b), h2, h3, none, none, none, none, h8, none, none] M2 := by
  simp [w3a, w3, w2, b__law_web, varE]
  intro l hl
  obtain ⟨m1, la, lb⟩ := m.new (y := .lst []) hl
  have bl : b ≠ l := fun e => lb (e ▸ hbm)
  have ba : b ≠ a := (m.fr b hbm).2
  obtain ⟨st2, hs2, ha2⟩ := m1.ca
  refine ⟨a, st2, 6, rfl, by omega, by omega, ha2, hs2, fun r' st3 q1 q2 hs3 => ?_⟩
  have m2 := m1.dig hs3
  have nd : hs.Nodup := ho.2.2.1.imp fun h => by omega
  simp [up_ne ba, up_ne bl, hb]
  refine forQ_ind (fun xs env M2 => ∃ p rest ls h6 h9, xs = rest.map D.int ∧ hs = p ++ rest ∧ ls.Sublist (pairs p hs) ∧ (∀ q ∈ ls, q.1 < q.2) ∧
    env = [some (.ref a), some (.ref b), h2, h3, some (.ref l), some (.int (1 + r')), h6, none, h8, h9, none] ∧ LW M a (l :: bs) M2 ∧ M2 b = some (.lst (hs.map .int)) ∧ M2 l = some (.lst (ls.map prD)))
    ⟨[], hs, [], none, none, rfl, rfl, List.Sublist.refl _, (fun _ h => nomatch h), rfl, m2, by rw [up_ne ba, up_ne bl]; exact hb, by rw [up_ne la, up_same]; rfl⟩ ?_ ?_ ?_
  · rintro _ _ M2 ⟨p, rest, ls, h6, h9, rfl, _, _, _, rfl, m, hb, hl⟩
    simp [hb]
  · rintro x xs' _ M2 F' ⟨p, rest, ls, h6, h9, e, e2, sb, lt, rfl, m, hb, hl⟩ hF'
    cases rest with
    | nil => cases e
    | cons u rest =>
      cases e
      refine ⟨_, rfl, ?_⟩
      simp [hb]
      refine forQ_ind (fun xs env M2 => ∃ q rest' ls h9, xs = rest'.map D.int ∧ hs = q ++ rest' ∧ ls.Sublist (pairs p hs ++ q.map fun b => (u, b)) ∧ (∀ q ∈ ls, q.1 < q.2) ∧
        env = [some (.ref a), some (.ref b), h2, h3, some (.ref l), some (.int (1 + r')), some (.int u), none, h8, h9, none] ∧ LW M a (l :: bs) M2 ∧ M2 b = some (.lst (hs.map .int)) ∧ M2 l = some (.lst (ls.map prD)))
        ⟨[], hs, ls, h9, rfl, rfl, by simpa using sb, lt, rfl, m, hb, hl⟩ ?_ ?_ ?_
      · rintro _ _ M2 ⟨q, rest', ls, h9, rfl, _, _, _, rfl, m, hb, hl⟩
        simp [hb]
      · rintro x xs' _ M2 F2 ⟨q, rest', ls, h9, e, e3, sb, lt, rfl, m, hb, hl⟩ hF2
        cases rest' with
        | nil => cases e
        | cons v rest' =>
          cases e
          have next : ls.Sublist (pairs p hs ++ (q ++ [v]).map fun b => (u, b)) := sb.trans (by rw [List.map_append, ← List.append_assoc]; exact List.sublist_append_left _ _)
          refine ⟨_, rfl, ?_⟩
          simp
          refine br_dec (fun huv => ?_) (fun huv => by simp [huv]; exact hF2 _ _ ⟨q ++ [v], rest', ls, _, rfl, by rw [e3]; simp, next, lt, rfl, m, hb, hl⟩)
          obtain ⟨st4, hs4, ha4⟩ := m.ca
          refine ⟨a, st4, 1 + r', rfl, by omega, by omega, ha4, hs4, fun r5 st5 q3 q4 hs5 => ?_⟩
          have m5 := m.dig hs5
          have hb5 : up M2 a (.lst (st5.map .int)) b = some (.lst (hs.map .int)) := by rw [up_ne ba]; exact hb
          have hl5 : up M2 a (.lst (st5.map .int)) l = some (.lst (ls.map prD)) := by rw [up_ne la]; exact hl
          simp
          refine br_cases (fun _ => ?_) (fun _ => hF2 _ _ ⟨q ++ [v], rest', ls, _, rfl, by rw [e3]; simp, next, lt, rfl, m5, hb5, hl5⟩)
          have hlen : ls.length < sizeLine := by
            have h1 := sb.length_le
            rw [List.length_append, len_pairs, List.length_map] at h1
            have h2 : p.length ≤ hs.length := by rw [e2]; simp
            have h3 : q.length ≤ hs.length := by rw [e3]; simp
            have h4 := ho.2.1
            have h5 : p.length * hs.length ≤ 12 * 12 := Nat.mul_le_mul (by omega) h4
            exact Nat.lt_of_lt_of_le (show ls.length < 1000 by omega) (by decide)
          simp [hl5]
          refine ⟨hlen, hF2 _ _ ⟨q ++ [v], rest', ls ++ [(u, v)], _, rfl, by rw [e3]; simp, ?_, ?_, rfl, m5.set (by simp), by rw [up_ne bl]; exact hb5, by rw [up_same]; simp [prD]⟩⟩
          · rw [List.map_append, ← List.append_assoc]
            exact sb.append (List.Sublist.refl _)
          · intro w hw
            rcases List.mem_append.mp hw with hw | hw
            · exact lt w hw
            · simp at hw; subst hw; exact huv
      · rintro _ M2 ⟨q, rest', ls, h9, e, e3, sb, lt, rfl, m, hb, hl⟩
        have : rest' = [] := by cases rest' with
          | nil => rfl
          | cons _ _ => cases e
        subst this
        rw [List.append_nil] at e3
        refine hF' _ _ ⟨p ++ [u], rest, ls, _, _, rfl, by rw [e2]; simp, by rw [pairs_app]; rw [← e3] at sb; exact sb, lt, rfl, m, hb, hl⟩
  · rintro _ M2 ⟨p, rest, ls, h6, h9, e, e2, sb, lt, rfl, m, hb, hl⟩
    have : rest = [] := by cases rest with
      | nil => rfl
      | cons _ _ => cases e
    subst this
    rw [List.append_nil] at e2
    rw [← e2] at sb
    have h5 : hs.length * hs.length ≤ 12 * 12 := Nat.mul_le_mul ho.2.1 ho.2.1
    refine hF l ls _ _ _ (l :: bs) M2 ⟨sb.nodup (nd_pairs nd nd), by have := sb.length_le; rw [len_pairs] at this; omega, fun q hq => ?_⟩ m (List.mem_cons_of_mem _ hbm) List.mem_cons_self (Ne.symm bl) hb hl
    have := mem_pairs.mp (sb.subset hq)
    exact ⟨this.1, this.2, lt q hq⟩
theorem w_lawweb {T : Tab} [hT : TW T] : ∀ ds M Q E, spLawWeb ds M Q E → wSs T b__law_web (fnK c Q E) (env0 N__law_web.length ds) M := by
  rintro _ M Q E ⟨a, st, rfl, ha, hst, hQ⟩
  rw [w_split, wSs_app]
  refine w_lawweb1 ha hst fun b hs h2 h3 h8 M2 ho m hb => ?_
  show wSs T w2 _ _ _
  rw [w2_split, wSs_app]
  refine w_lawweb2 ho m hb fun b hs bs M2 ho m hbm hb => ?_
  show wSs T w3 _ _ _
  rw [w3_split, wSs_app]
  refine w_lawweb3 ho m hbm hb fun l ls h5 h6 h9 bs M2 lo m hbm hlm lb hb hl => ?_
  show wSs T w4 _ _ _
  simp [w4, w3, w2, b__law_web, varE, hl]
  obtain ⟨st2, hs2, ha2⟩ := m.ca
  have la : l ≠ a := (m.fr l hlm).2
  have ba : b ≠ a := (m.fr b hbm).2
  have bM : M b = none := (m.fr b hbm).1
  refine ⟨a, st2, (ls.length : Int) + 1, rfl, by omega, by have := lo.2.1; omega, ha2, hs2, fun t st3 q1 q2 hs3 => ?_⟩
  have m3 := m.dig hs3
  have c1 : cut (ls.map prD) (some t) none = (ls.drop t.toNat).map prD := by rw [cut_drop q1 (by simp; omega)]; simp
  have c2 : cut (ls.map prD) none (some t) = (ls.take t.toNat).map prD := by rw [cut_take q1 (by simp; omega)]; simp
  have hl3 : up M2 a (.lst (st3.map .int)) l = some (.lst (ls.map prD)) := by rw [up_ne la]; exact hl
  have hb3 : up M2 a (.lst (st3.map .int)) b = some (.lst (hs.map .int)) := by rw [up_ne ba]; exact hb
  have lo' : LinesOk hs (ls.drop t.toNat ++ ls.take t.toNat) := by
    obtain ⟨l1, l2, l3⟩ := lo
    have pm : (ls.drop t.toNat ++ ls.take t.toNat).Perm ls := by
      have := (List.perm_append_comm (l₁ := ls.drop t.toNat) (l₂ := ls.take t.toNat))
      rw [List.take_append_drop] at this
      exact this
    exact ⟨pm.nodup_iff.mpr l1, by rw [pm.length_eq]; exact l2, fun p hp => l3 p (pm.mem_iff.mp hp)⟩
  have fin : (fnK c Q E).rt (.tup [.ref b, .lst ((ls.drop t.toNat ++ ls.take t.toNat).map prD)]) (up M2 a (.lst (st3.map .int))) := by
    have e : fz 2 (up M2 a (.lst (st3.map .int))) (.tup [.ref b, .lst ((ls.drop t.toNat ++ ls.take t.toNat).map prD)]) = .tup [.lst (hs.map .int), .lst ((ls.drop t.toNat ++ ls.take t.toNat).map prD)] := by
      have e1 : fz 1 (up M2 a (.lst (st3.map .int))) (.ref b) = .lst (hs.map .int) := by
        unfold fz
        rw [hb3]
        show D.lst ((hs.map D.int).map (fz 0 _)) = _
        rw [fz_ints]
      show D.tup [fz 1 _ (.ref b), .lst (((ls.drop t.toNat ++ ls.take t.toNat).map prD).map (fz 0 _))] = _
      rw [e1, fz_prs]
    refine ⟨_, up M a (.lst (st3.map .int)), ?_, hQ hs _ st3 ho lo' hs3⟩
    rw [← e]
    refine Frz.deep 2 (fun y z hz => ?_) fun y hy => ?_
    · by_cases ya : y = a
      · subst ya; rw [up_same] at hz ⊢; exact hz
      · rw [up_ne ya] at hz ⊢
        have yb : y ∉ bs := fun hm => by rw [(m.fr y hm).1] at hz; cases hz
        rw [m.off y ya yb]; exact hz
    · have r1 : rf 1 (up M2 a (.lst (st3.map .int))) (.ref b) = [b] := by
        conv => lhs; unfold rf
        rw [hb3]
        show b :: (hs.map D.int).flatMap (rf 0 _) = _
        rw [rf_ints]
      have r2 : rf 2 (up M2 a (.lst (st3.map .int))) (.tup [.ref b, .lst ((ls.drop t.toNat ++ ls.take t.toNat).map prD)]) = rf 1 (up M2 a (.lst (st3.map .int))) (.ref b) ++ (((ls.drop t.toNat ++ ls.take t.toNat).map prD).flatMap (rf 0 (up M2 a (.lst (st3.map .int)))) ++ []) := rfl
      rw [r2, r1, rf_prs] at hy
      simp at hy
      subst hy
      rw [up_ne ba]; exact bM
  have sz : ls.length - t.toNat + min t.toNat ls.length ≤ sizeLine := small (by have := lo.2.1; omega)
  simp [slD_ref hl3, c1, c2]
  refine ⟨sz, ?_⟩
  simpa using fin
end L3.K01

set_option maxRecDepth 100000
set_option maxHeartbeats 4000000
namespace L3.K02
open PySem L2 K01
def N__law_bad : List PySem.Str := ["_law_hands", "_law_lines", "_law_state", "_law_top", "_law_some", "_law_odd", "_law_line", "_law_one", "_law_other", "_law_turned", "_law_hand"]
def b__law_bad : List SS := [
  .asg 3 (.ix (.var 0) (.neg (.int 1))),
  .asg 4 (.lst true [(.tup [(.bin .Add (.var 0) (.lst false [(.var 3)])), (.var 1)]), (.tup [(.bin .Add (.rev false (.var 0)) (.lst false [(.ix (.var 0) (.int 0))])), (.var 1)]), (.tup [(.bin .Add (.lst false [(.neg (.int 1))]) (.var 0)), (.var 1)]), (.tup [(.bin .Add (.var 0) (.lst false [(.int 100)])), (.var 1)])]),
  .asg 4 (.cat (.var 4) (.lst false [(.tup [(.bin .Add (.sl (.comp false (.nm 10) .seq [(.var 0)] (.cmp .Gt (.var 10) (.int 1)) (.var 10)) .non (.int 3)) (.lst false [(.bl true)])), (.lst false [])]), (.tup [(.lst false [(.str "0")]), (.lst false [])]), (.tup [(.lst false [.non]), (.lst false [])]), (.tup [(.lst false []), (.lst false [])])])),
  .asg 4 (.cat (.var 4) (.lst false [(.tup [(.bi false .tuple [(.var 0)]), (.var 1)]), (.tup [.non, (.var 1)]), (.tup [(.lrng false .rng1 [(.int 13)]), (.lst false [])]), (.tup [(.lrng false .rng2 [(.int 87), (.int 100)]), (.lst false [])])])),
  .asg 4 (.cat (.var 4) (.lst false [(.tup [(.lst false [(.int 3), (.int 2)]), (.lst false [])]), (.tup [(.lst false [(.int 5), (.int 5)]), (.lst false [])]), (.tup [(.lst false [(.int 0), (.int 1), (.int 99), (.int 98)]), (.lst false [])]), (.tup [(.lst false [(.bl false)]), (.lst false [])]), (.tup [(.lst false [(.int 0), (.bin .Pow (.int 10) (.int 20))]), (.lst false [])]), (.tup [(.str "0"), (.lst false [])])])),
  .asg 4 (.cat (.var 4) (.lst false [(.tup [(.var 0), (.bi false .tuple [(.var 1)])]), (.tup [(.var 0), .non]), (.tup [(.var 0), (.bin .Add (.var 1) (.lst false [.non]))]), (.tup [(.var 0), (.bin .Add (.var 1) (.lst false [(.tup [(.var 3), (.var 3)])]))])])),
  .asg 5 (.lst false [(.tup [(.ix (.var 0) (.int 0)), (.int 100)]), (.tup [(.neg (.int 1)), (.var 3)]), (.lst false [(.ix (.var 0) (.int 0)), (.var 3)]), (.tup [(.ix (.var 0) (.int 0))]), (.tup [(.ix (.var 0) (.int 0)), (.var 3), (.var 3)]), (.tup [(.str "0"), (.var 3)]), (.tup [.non, (.var 3)])]),
  .fors (.nm 6) .seq [(.var 5)] [.exp (.bm false (.var 4) .append [(.tup [(.var 0), (.bin .Add (.var 1) (.lst false [(.var 6)]))])])],
  .ifs (.cmp .NotEq (.var 1) (.lst false [])) [.asgT [7, 8] (.ix (.var 1) (.call false .«_law_digit» [(.var 2), (.bi false .len [(.var 1)])])), .asg 4 (.cat (.var 4) (.lst false [(.tup [(.var 0), (.bin .Add (.var 1) (.lst false [(.tup [(.var 7), (.var 8)])]))]), (.tup [(.var 0), (.bin .Add (.lst false [(.tup [(.var 8), (.var 7)])]) (.var 1))]), (.tup [(.var 0), (.bin .Add (.var 1) (.lst false [(.tup [(.var 7), (.var 7)])]))])])), .asg 4 (.cat (.var 4) (.lst false [(.tup [(.var 0), (.bin .Add (.var 1) (.lst false [(.lst false [(.var 7), (.var 8)])]))]), (.tup [(.comp false (.nm 10) .seq [(.var 0)] (.cmp .NotEq (.var 10) (.var 7)) (.var 10)), (.var 1)])])), .asg 9 (.comp false (.nm 6) .seq [(.var 1)] (.cmp .NotEq (.var 6) (.tup [(.var 7), (.var 8)])) (.var 6)), .asg 4 (.cat (.var 4) (.lst false [(.tup [(.var 0), (.lst false [(.tup [(.var 8), (.var 7)])])]), (.tup [(.var 0), (.bin .Add (.var 9) (.lst false [(.tup [(.var 8), (.var 7)])]))]), (.tup [(.var 0), (.lst false [(.tup [(.var 7), (.var 7)])])])]))] [],
  .ret (.ix (.var 4) (.call false .«_law_digit» [(.var 2), (.bi false .len [(.var 4)])]))]
def P__law_bad : List PySem.Str := ["_law_hands", "_law_lines", "_law_state"]
theorem k__law_bad : okSs false none b__law_bad = true := by decide +kernel
def N__law_refused : List PySem.Str := ["_law_hands", "_law_lines", "_law_others", "e"]
def b__law_refused : List SS := [
  .asg 2 (.lst false [(.bl true)]),
  .tryx [.exp (.mk false .«Web» [(.var 0), (.var 1)])] .«NoWeb» (some 3) [.asg 2 (.lst false [(.isx 3 false [.own .«NoHand»]), (.isx 3 false [.own .«NoLine»]), (.isx 3 false [.own .«NoWay»]), (.isx 3 false [.own .«NoProgram»])]), .asg 2 (.bin .Add (.var 2) (.lst false [(.not (.isx 3 false [.own .«BeatlessError»])), (.not (.isx 3 false [.bt "ValueError"]))]))],
  .ret (.not (.bi false .any [(.var 2)]))]
def P__law_refused : List PySem.Str := ["_law_hands", "_law_lines"]
theorem k__law_refused : okSs false none b__law_refused = true := by decide +kernel
def N_law : List PySem.Str := ["_law_script", "_law_hands", "_law_lines", "_law_k", "_law_wide", "_law_good", "_law_bad_here", "_law_more", "_law_other"]
def b_law : List SS := [
  .asgT [1, 2] (.call false .«_law_web» [(.lst true [(.call false .«_law_cell_at» [(.var 0), (.int 0)])])]),
  .ifs (.call false .«_law_refused» [(.var 1), (.var 2)]) [.ret (.bl false)] [],
  .fors (.nm 3) .rng2 [(.int 1), (.bi false .max [(.int 2), (.bi false .min [(.int 40), (.bi false .len [(.var 0)])])])] [.asgT [6, 7] (.call false .«_law_bad» [(.var 1), (.var 2), (.lst true [(.bin .Add (.call false .«_law_cell_at» [(.var 0), (.var 3)]) (.bin .Mult (.int 7) (.var 3)))])]), .ifs (.not (.call false .«_law_refused» [(.var 6), (.var 7)])) [.ret (.bl false)] []],
  .asg 4 (.bin .Add (.bin .Add (.lst false [(.int 0)]) (.comp false (.nm 3) .rng2 [(.int 1), (.int 11)] (.bl true) (.bin .Mult (.int 8) (.var 3)))) (.lst false [(.int 99)])),
  .fors (.nm 5) .seq [(.lst false [(.lst false [(.int 0)]), (.lst false [(.int 99)]), (.var 4), (.lrng false .rng2 [(.int 88), (.int 100)])])] [.ifs (.call false .«_law_refused» [(.var 5), (.comp false (.nm 8) .seq [(.sl (.var 5) (.int 1) .non)] (.bl true) (.tup [(.ix (.var 5) (.int 0)), (.var 8)]))]) [.ret (.bl false)] []],
  .ret (.bop true [(.not (.call false .«_law_refused» [(.lst false [(.int 0), (.int 1)]), (.lst false [(.tup [(.int 0), (.int 1)])])])), (.call false .«_law_refused» [(.lst false [(.int 0), (.int 1)]), (.lst false [(.tup [(.int 0), (.bl true)])])])])]
def P_law : List PySem.Str := ["_law_script"]
theorem k_law : okSs false none b_law = true := by decide +kernel
def top (i : Nat) : Stmt := PySem.Challenge.pw_beatless_k02_webs_refused.main.body.getD i (.Pass ⟨0, 0, 0, 0⟩)
abbrev s_is_whole : Stmt := top 11
theorem m_is_whole : mSs N_is_whole (defScope s_is_whole) b_is_whole (defBody s_is_whole) = true := by decide +kernel
theorem sc_is_whole : FnScope N_is_whole P_is_whole (defScope s_is_whole) := ⟨rfl, rfl, rfl, by decide +kernel, rfl, by decide +kernel, by decide +kernel⟩
abbrev s_are_hands : Stmt := top 12
theorem m_are_hands : mSs N_are_hands (defScope s_are_hands) b_are_hands (defBody s_are_hands) = true := by decide +kernel
theorem sc_are_hands : FnScope N_are_hands P_are_hands (defScope s_are_hands) := ⟨rfl, rfl, rfl, by decide +kernel, rfl, by decide +kernel, by decide +kernel⟩
abbrev s_is_line : Stmt := top 13
theorem m_is_line : mSs N_is_line (defScope s_is_line) b_is_line (defBody s_is_line) = true := by decide +kernel
theorem sc_is_line : FnScope N_is_line P_is_line (defScope s_is_line) := ⟨rfl, rfl, rfl, by decide +kernel, rfl, by decide +kernel, by decide +kernel⟩
abbrev s_are_lines : Stmt := top 14
theorem m_are_lines : mSs N_are_lines (defScope s_are_lines) b_are_lines (defBody s_are_lines) = true := by decide +kernel
theorem sc_are_lines : FnScope N_are_lines P_are_lines (defScope s_are_lines) := ⟨rfl, rfl, rfl, by decide +kernel, rfl, by decide +kernel, by decide +kernel⟩
abbrev s_Web___init__ : Stmt := inClass (top 15) 0
theorem m_Web___init__ : mSs N_Web___init__ (defScope s_Web___init__) b_Web___init__ (defBody s_Web___init__) = true := by decide +kernel
theorem sc_Web___init__ : FnScope N_Web___init__ P_Web___init__ (defScope s_Web___init__) := ⟨rfl, rfl, rfl, by decide +kernel, rfl, by decide +kernel, by decide +kernel⟩
abbrev s__law_cell_at : Stmt := top 17
theorem m__law_cell_at : mSs N__law_cell_at (defScope s__law_cell_at) b__law_cell_at (defBody s__law_cell_at) = true := by decide +kernel
theorem sc__law_cell_at : FnScope N__law_cell_at P__law_cell_at (defScope s__law_cell_at) := ⟨rfl, rfl, rfl, by decide +kernel, rfl, by decide +kernel, by decide +kernel⟩
abbrev s__law_digit : Stmt := top 18
theorem m__law_digit : mSs N__law_digit (defScope s__law_digit) b__law_digit (defBody s__law_digit) = true := by decide +kernel
theorem sc__law_digit : FnScope N__law_digit P__law_digit (defScope s__law_digit) := ⟨rfl, rfl, rfl, by decide +kernel, rfl, by decide +kernel, by decide +kernel⟩
abbrev s__law_web : Stmt := top 19
theorem m__law_web : mSs N__law_web (defScope s__law_web) b__law_web (defBody s__law_web) = true := by decide +kernel
theorem sc__law_web : FnScope N__law_web P__law_web (defScope s__law_web) := ⟨rfl, rfl, rfl, by decide +kernel, rfl, by decide +kernel, by decide +kernel⟩
abbrev s__law_bad : Stmt := top 20
theorem m__law_bad : mSs N__law_bad (defScope s__law_bad) b__law_bad (defBody s__law_bad) = true := by decide +kernel
theorem sc__law_bad : FnScope N__law_bad P__law_bad (defScope s__law_bad) := ⟨rfl, rfl, rfl, by decide +kernel, rfl, by decide +kernel, by decide +kernel⟩
abbrev s__law_refused : Stmt := top 21
theorem m__law_refused : mSs N__law_refused (defScope s__law_refused) b__law_refused (defBody s__law_refused) = true := by decide +kernel
theorem sc__law_refused : FnScope N__law_refused P__law_refused (defScope s__law_refused) := ⟨rfl, rfl, rfl, by decide +kernel, rfl, by decide +kernel, by decide +kernel⟩
abbrev s_law : Stmt := top 22
theorem m_law : mSs N_law (defScope s_law) b_law (defBody s_law) = true := by decide +kernel
theorem sc_law : FnScope N_law P_law (defScope s_law) := ⟨rfl, rfl, rfl, by decide +kernel, rfl, by decide +kernel, by decide +kernel⟩
end L3.K02

set_option maxRecDepth 100000
set_option maxHeartbeats 4000000
namespace L3.K02
open PySem L2 K01
variable {c : Cfg}
/-! ### hands, lines, told of anything -/
def flatL : D → Prop
  | .lst xs => xs.length ≤ 150 ∧ ∀ x ∈ xs, flatD x = true
  | _ => True
def HandsP (d : D) : Prop := ∃ hs : List Int, d = .lst (hs.map .int) ∧ HandsOk hs
def okH : D → Bool
  | .int i => decide (0 ≤ i) && decide (i ≤ 99)
  | _ => false
def spHandsG : SpD := fun ds M Q E => ∃ d, ds = [d] ∧ plainB d = true ∧ flatL d ∧ ∀ b : Bool, (b = true ↔ HandsP d) → Q (.bl b) M
theorem okH_ints : ∀ {xs : List D}, (xs.all okH) = true → ∃ hs : List Int, xs = hs.map .int ∧ ∀ h ∈ hs, 0 ≤ h ∧ h ≤ 99
  | [], _ => ⟨[], rfl, fun _ h => nomatch h⟩
  | x :: xs, h => by
    simp only [List.all_cons, Bool.and_eq_true] at h
    obtain ⟨hs, rfl, h2⟩ := okH_ints h.2
    cases x <;> first | cases h.1 | skip
    rename_i i
    have h1 := h.1
    simp only [okH, Bool.and_eq_true, decide_eq_true_eq] at h1
    exact ⟨i :: hs, rfl, fun z hz => by
      rcases List.mem_cons.mp hz with rfl | hz
      · exact h1
      · exact h2 z hz⟩
theorem flat_plain {d : D} (h : flatD d = true) : plainB d = true := by cases d <;> first | rfl | cases h
theorem pw_iff {hs : List Int} : hs.Pairwise (· < ·) ↔ ∀ i : Nat, i < hs.length - 1 → ∃ (h : i < hs.length) (h' : i + 1 < hs.length), hs[i] < hs[i + 1] := by
  constructor
  · intro h i hi
    exact ⟨by omega, by omega, List.pairwise_iff_getElem.mp h i (i + 1) (by omega) (by omega) (by omega)⟩
  · intro h
    induction hs with
    | nil => exact .nil
    | cons x r ih =>
      have ihr := ih fun i hi => by
        obtain ⟨h1, h2, h3⟩ := h (i + 1) (by simp; omega)
        exact ⟨by simp at h1; omega, by simp at h2; omega, by simpa using h3⟩
      rw [List.pairwise_cons]
      refine ⟨fun y hy => ?_, ihr⟩
      cases r with
      | nil => cases hy
      | cons z t =>
        obtain ⟨_, _, h3⟩ := h 0 (by simp)
        have h3 : x < z := by simpa using h3
        rcases List.mem_cons.mp hy with rfl | hy
        · exact h3
        · have := (List.pairwise_cons.mp ihr).1 y hy
          omega
theorem w_handsG {T : Tab} [hT : TH T] : ∀ ds M Q E, spHandsG ds M Q E → wSs T b_are_hands (fnK c Q E) (env0 N_are_hands.length ds) M := by
  rintro _ M Q E ⟨d, rfl, hp, hf, hQ⟩
  have no : ¬ HandsP d → (fnK c Q E).rt (.bl false) M := fun h => rt_self (hQ false (by simp [h]))
  simp [b_are_hands, N_are_hands, env0, varE]
  cases d with
  | lst xs =>
    obtain ⟨hl, hfl⟩ := hf
    have n1 : lenD M (.lst xs) = some (xs.length : Int) := rfl
    have len : ¬ (1 ≤ (xs.length : Int) ∧ (xs.length : Int) ≤ 12) → ¬ HandsP (.lst xs) := fun h ⟨hs, e, h1, h2, _⟩ => by
      cases e
      simp at h
      omega
    simp [n1]
    refine br_dec (fun h1 => ?_) (fun h1 => no (len fun h => h1 h.1))
    refine br_cases (fun h2 => no (len fun h => by simp at h2; omega)) (fun h2 => ?_)
    have h2 : (xs.length : Int) ≤ 12 := by simpa using h2
    refine compQ_map (fun x => .bl (okH x)) (small (by omega)) rfl (fun x hx => ⟨_, rfl, fun P hP => hP, fun P hP => ?_⟩) ?_
    · have fx := hfl x hx
      simp
      refine ⟨x, rfl, flat_plain fx, ?_⟩
      cases x <;> first | cases fx | skip
      · simpa [wholeB, okH] using hP
      · simpa [wholeB, okH] using hP
      · rename_i z
        simp [wholeB]
        refine br_dec (fun g1 => ?_) (fun g1 => ?_)
        · have e : okH (.int z) = decide (z ≤ 99) := by simp [okH, g1]
          rw [e] at hP; exact hP
        · have e : okH (.int z) = false := by simp [okH, g1]
          rw [e] at hP; exact hP
      · simpa [wholeB, okH] using hP
    · have eb : boolsD (xs.map fun x => D.bl (okH x)) = some (xs.map okH) := boolsD_all
      rw [eb, obn_some]
      refine br_cases (fun h => ?_) (fun h => ?_)
      · refine no fun ⟨hs, e, _, _, _, h5⟩ => ?_
        cases e
        simp [okH] at h
        obtain ⟨z, hz, hz2⟩ := h
        have := h5 z hz
        have := hz2 (by omega)
        omega
      · have ha : xs.all okH = true := by
          have : ((xs.map okH).all id) = true := by simpa using h
          rw [List.all_map] at this
          exact this
        obtain ⟨hs, rfl, hb⟩ := okH_ints ha
        simp at h1 h2
        have it : itD .rng1 [.int (((hs.map D.int).length : Int) - 1)] M = some (rngL 0 (hs.length - 1)) := by rw [itD_rng1 (by simp; omega) (by omega)]; congr 2; simp
        have q : (∃ P : Nat → Bool, True) := ⟨fun _ => true, trivial⟩
        rw [it]
        let g : D → Bool := fun x => match x with
          | .int i => match hs[i.toNat]?, hs[i.toNat + 1]? with
            | some a, some b => decide (a < b)
            | _, _ => false
          | _ => false
        refine compQ_map (fun x => .bl (g x)) (small (by rw [rng_len]; omega)) it (fun x hx => ⟨_, rfl, fun P hP => hP, fun P hP => ?_⟩) ?_
        · obtain ⟨i, hi, rfl⟩ := mem_rng hx
          have i1 : i < hs.length := by omega
          have i2 : i + 1 < hs.length := by omega
          have a1 := atI_of i1
          have a2 := atI_of i2
          have e : g (.int (0 + (i : Nat))) = decide (hs[i] < hs[i + 1]) := by
            show (match hs[((0 : Int) + (i : Nat)).toNat]?, hs[((0 : Int) + (i : Nat)).toNat + 1]? with | some a, some b => decide (a < b) | _, _ => false) = _
            have : ((0 : Int) + (i : Nat)).toNat = i := by omega
            rw [this, List.getElem?_eq_getElem i1, List.getElem?_eq_getElem i2]
          rw [e] at hP
          simp at a1 a2
          simp [a1, a2]
          exact hP
        · have eb : boolsD ((rngL 0 (hs.length - 1)).map fun x => D.bl (g x)) = some ((rngL 0 (hs.length - 1)).map g) := boolsD_all
          rw [eb, obn_some]
          refine rt_self (hQ _ ?_)
          rw [List.all_map, List.all_eq_true]
          constructor
          · intro h
            refine ⟨hs, rfl, by omega, by omega, pw_iff.mpr fun i hi => ⟨by omega, by omega, ?_⟩, hb⟩
            have i1 : i < hs.length := by omega
            have i2 : i + 1 < hs.length := by omega
            have hm : D.int (0 + (i : Nat)) ∈ rngL 0 (hs.length - 1) := by simp [rngL]; exact ⟨i, hi, rfl⟩
            have := h _ hm
            have e : g (.int (0 + (i : Nat))) = decide (hs[i] < hs[i + 1]) := by
              show (match hs[((0 : Int) + (i : Nat)).toNat]?, hs[((0 : Int) + (i : Nat)).toNat + 1]? with | some a, some b => decide (a < b) | _, _ => false) = _
              have : ((0 : Int) + (i : Nat)).toNat = i := by omega
              rw [this, List.getElem?_eq_getElem i1, List.getElem?_eq_getElem i2]
            have h' : g (.int (0 + (i : Nat))) = true := this
            rw [e] at h'
            exact of_decide_eq_true h'
          · rintro ⟨hs', e, _, _, h3, _⟩ x hx
            have e := D.lst.inj e
            have e : hs = hs' := by
              have : ∀ {a b : List Int}, a.map D.int = b.map D.int → a = b := fun {a b} h => by
                have := congrArg intsD h
                rw [intsD_map, intsD_map] at this
                exact Option.some.inj this
              exact this e
            subst e
            obtain ⟨i, hi, rfl⟩ := mem_rng hx
            obtain ⟨i1, i2, lt⟩ := pw_iff.mp h3 i hi
            show g (.int (0 + (i : Nat))) = true
            show (match hs[((0 : Int) + (i : Nat)).toNat]?, hs[((0 : Int) + (i : Nat)).toNat + 1]? with | some a, some b => decide (a < b) | _, _ => false) = _
            have : ((0 : Int) + (i : Nat)).toNat = i := by omega
            rw [this, List.getElem?_eq_getElem i1, List.getElem?_eq_getElem i2]
            exact decide_eq_true lt
  | ref _ => cases hp
  | dct _ _ => cases hp
  | ins _ _ => cases hp
  | ro _ _ => cases hp
  | exc _ _ => cases hp
  | _ =>
    simp
    exact no fun ⟨hs, e, _⟩ => nomatch e
/-! ### lines -/
def flatX : D → Prop
  | .tup ys => ys.length ≤ 10 ∧ ∀ y ∈ ys, flatD y = true
  | .lst ys => ys.length ≤ 10 ∧ ∀ y ∈ ys, flatD y = true
  | _ => True
def lineP (hs : List Int) (x : D) : Prop := ∃ p : Int × Int, x = prD p ∧ p.1 ∈ hs ∧ p.2 ∈ hs ∧ p.1 < p.2
def spLineG : SpD := fun ds M Q E => ∃ H hs x, ds = [H, x] ∧ Arg M H (hs.map .int) ∧ plainB x = true ∧ flatX x ∧ ∀ b : Bool, (b = true ↔ lineP hs x) → Q (.bl b) M
theorem w_lineG {T : Tab} [hT : TF T] : ∀ ds M Q E, spLineG ds M Q E → wSs T b_is_line (fnK c Q E) (env0 N_is_line.length ds) M := by
  rintro _ M Q E ⟨H, hs, x, rfl, hA, hp, hf, hQ⟩
  have no : ¬ lineP hs x → (fnK c Q E).rt (.bl false) M := fun h => rt_self (hQ false (by simp [h]))
  simp [b_is_line, N_is_line, env0, varE]
  cases x with
  | tup ys =>
    have n1 : lenD M (.tup ys) = some (ys.length : Int) := rfl
    have tup2 : ys.length ≠ 2 → ¬ lineP hs (.tup ys) := fun h ⟨p, e, _⟩ => by
      cases e
      simp at h
    match ys, tup2, no, hQ, hf, n1 with
    | [], t2, no, _, _, n1 => simp [n1]; exact no (t2 (by simp))
    | [_], t2, no, _, _, n1 => simp [n1]; exact no (t2 (by simp))
    | _ :: _ :: _ :: r, t2, no, _, _, n1 =>
      have : ((r.length : Int) + 1 + 1 + 1 == 2) = false := by simp; omega
      simp [n1, this]
      exact no (t2 (by simp))
    | [y0, y1], _, no, hQ, hf, n1 =>
      have f0 := hf.2 y0 (by simp)
      have f1 := hf.2 y1 (by simp)
      simp [n1]
      refine ⟨y0, rfl, flat_plain f0, ?_⟩
      cases hw : wholeB y0 with
      | false =>
        simp
        refine no fun ⟨p, e, _⟩ => ?_
        cases e
        cases hw
      | true =>
        simp
        refine ⟨y1, rfl, flat_plain f1, ?_⟩
        cases hw1 : wholeB y1 with
        | false =>
          simp
          refine no fun ⟨p, e, _⟩ => ?_
          cases e
          cases hw1
        | true =>
          simp
          obtain ⟨a, rfl⟩ : ∃ a : Int, y0 = .int a := by cases y0 <;> first | exact ⟨_, rfl⟩ | cases hw
          obtain ⟨b, rfl⟩ : ∃ b : Int, y1 = .int b := by cases y1 <;> first | exact ⟨_, rfl⟩ | cases hw1
          have i1 := hA.f.ints a
          have i2 := hA.f.ints b
          have iff : lineP hs (.tup [.int a, .int b]) ↔ a ∈ hs ∧ b ∈ hs ∧ a < b := by
            constructor
            · rintro ⟨⟨a', b'⟩, e, h⟩
              cases e
              exact h
            · intro h
              exact ⟨(a, b), rfl, h⟩
          simp [i1, i2]
          refine br_dec (fun h1 => ?_) (fun h1 => ?_)
          · refine br_dec (fun h2 => ?_) (fun h2 => ?_)
            · exact rt_self (hQ _ (by rw [iff]; simp [h1, h2]))
            · exact rt_self (hQ _ (by rw [iff]; simp [h1, h2]))
          · exact rt_self (hQ _ (by rw [iff]; simp [h1]))
  | ref _ => cases hp
  | dct _ _ => cases hp
  | ins _ _ => cases hp
  | ro _ _ => cases hp
  | exc _ _ => cases hp
  | _ =>
    simp
    exact no fun ⟨p, e, _⟩ => nomatch e
def LinesP (hs : List Int) (d : D) : Prop := ∃ ls : List (Int × Int), d = .lst (ls.map prD) ∧ LinesOk hs ls
def flatXs : D → Prop
  | .lst xs => xs.length ≤ 150 ∧ ∀ x ∈ xs, plainB x = true ∧ flatX x
  | _ => True
def spLinesG : SpD := fun ds M Q E => ∃ H hs d, ds = [H, d] ∧ Arg M H (hs.map .int) ∧ plainB d = true ∧ flatXs d ∧ ∀ b : Bool, (b = true ↔ LinesP hs d) → Q (.bl b) M
class TLG (T : Tab) : Prop where
  h3 : lk T.fn .is_line = some spLineG
@[simp] theorem tlg3 {T : Tab} [h : TLG T] : lk T.fn .is_line = some spLineG := h.h3
theorem lineP_prs {hs : List Int} : ∀ {xs : List D}, (∀ x ∈ xs, lineP hs x) → ∃ ls : List (Int × Int), xs = ls.map prD ∧ ∀ p ∈ ls, p.1 ∈ hs ∧ p.2 ∈ hs ∧ p.1 < p.2
  | [], _ => ⟨[], rfl, fun _ h => nomatch h⟩
  | x :: xs, h => by
    obtain ⟨ls, rfl, h2⟩ := lineP_prs fun y hy => h y (List.mem_cons_of_mem _ hy)
    obtain ⟨p, rfl, h1⟩ := h x List.mem_cons_self
    exact ⟨p :: ls, rfl, fun q hq => by
      rcases List.mem_cons.mp hq with rfl | hq
      · exact h1
      · exact h2 q hq⟩
theorem prs_inj {a b : List (Int × Int)} (h : a.map prD = b.map prD) : a = b := by
  have := congrArg prs h
  rw [prs_map, prs_map] at this
  exact Option.some.inj this
theorem nodup_iff : ∀ {ls : List (Int × Int)}, ls.Nodup ↔ ∀ (i : Nat) (p : Int × Int), ls[i]? = some p → p ∉ ls.take i := fun {ls} => by
  rw [List.nodup_iff_pairwise_ne, List.pairwise_iff_getElem]
  constructor
  · intro h i p hp hm
    obtain ⟨hi, e⟩ := List.getElem?_eq_some_iff.mp hp
    obtain ⟨j, hj, ej⟩ := List.getElem_of_mem hm
    simp at hj ej
    exact h j i (by omega) hi (by omega) (ej.trans e.symm)
  · intro h i j hi hj hij e
    refine h j ls[j] (by simp) ?_
    rw [List.mem_take_iff_getElem]
    exact ⟨i, by omega, e⟩
theorem enum_at : ∀ {ds : List D} {n i : Nat} {d : D}, ds[i]? = some d → (enumFrom n ds)[i]? = some (.tup [.int ((n + i : Nat) : Int), d])
  | [], _, _, _, h => by simp at h
  | e :: r, n, 0, d, h => by simp at h; subst h; simp [enumFrom]
  | e :: r, n, i + 1, d, h => by
    have := enum_at (ds := r) (n := n + 1) (i := i) (d := d) (by simpa using h)
    simp only [enumFrom, List.getElem?_cons_succ]
    rw [this, show n + 1 + i = n + (i + 1) by omega]
open Classical in
theorem w_linesG {T : Tab} [hT : TLG T] : ∀ ds M Q E, spLinesG ds M Q E → wSs T b_are_lines (fnK c Q E) (env0 N_are_lines.length ds) M := by
  rintro _ M Q E ⟨H, hs, d, rfl, hA, hp, hf, hQ⟩
  have no : ¬ LinesP hs d → (fnK c Q E).rt (.bl false) M := fun h => rt_self (hQ false (by simp [h]))
  simp [b_are_lines, N_are_lines, env0, varE]
  cases d with
  | lst xs =>
    simp
    refine compQ_map (fun x => .bl (decide (lineP hs x))) (small (by have := hf.1; omega)) rfl (fun x hx => ⟨_, rfl, fun P hP => hP, fun P hP => ?_⟩) ?_
    · obtain ⟨g1, g2⟩ := hf.2 x hx
      simp
      refine ⟨H, hs, x, rfl, hA, g1, g2, fun b hb => ?_⟩
      have : b = decide (lineP hs x) := by
        rw [Bool.eq_iff_iff, hb, decide_eq_true_eq]
      subst this
      simp
      exact hP
    · have eb : boolsD (xs.map fun x => D.bl (decide (lineP hs x))) = some (xs.map fun x => decide (lineP hs x)) := boolsD_all
      rw [eb, obn_some]
      simp
      refine br_cases (fun h => ?_) (fun h => ?_)
      · refine no fun ⟨ls, e, lo⟩ => ?_
        cases e
        simp at h
        obtain ⟨u, v, hq, hn⟩ := h
        exact hn ⟨(u, v), rfl, lo.2.2 (u, v) hq⟩
      · have ha : ∀ x ∈ xs, lineP hs x := fun x hx => by
          have h' : (xs.all fun x => decide (lineP hs x)) = true := by simpa using h
          exact of_decide_eq_true (List.all_eq_true.mp h' x hx)
        obtain ⟨ls, rfl, hb⟩ := lineP_prs ha
        have ll : ls.length ≤ 150 := by have := hf.1; simpa using this
        have it : itD .enum [.lst (ls.map prD)] M = some (enumFrom 0 (ls.map prD)) := itD_enum rfl
        rw [it]
        let g : D → Bool := fun x => decide (∀ (i : Nat) (p : Int × Int), x = .tup [.int (i : Nat), prD p] → p ∉ ls.take i)
        have ge : ∀ (i : Nat) (p : Int × Int), g (.tup [.int (i : Nat), prD p]) = !decide (p ∈ ls.take i) := fun i p => by
          show decide (∀ (j : Nat) (q : Int × Int), D.tup [.int (i : Nat), prD p] = .tup [.int (j : Nat), prD q] → q ∉ ls.take j) = _
          rw [Bool.eq_iff_iff]
          simp
          constructor
          · intro h; exact h i p.1 p.2 rfl rfl
          · intro h j a b e1 e2
            have e1 : i = j := by omega
            subst e1
            obtain ⟨p1, p2⟩ := p
            simp [prD] at e2
            obtain ⟨rfl, rfl⟩ := e2
            exact h
        refine compQ_map (fun x => .bl (g x)) (small (by rw [enum_size]; simp; omega)) it (fun x hx => ?_) ?_
        · obtain ⟨i, d', e1, rfl⟩ := mem_enum hx
          rw [List.getElem?_map] at e1
          cases e2 : ls[i]? with
          | none => rw [e2] at e1; cases e1
          | some p =>
            rw [e2] at e1
            cases e1
            have hi := (List.getElem?_eq_some_iff.mp e2).1
            refine ⟨_, rfl, fun P hP => hP, fun P hP => ?_⟩
            have ct : cut (ls.map prD) none (some (i : Int)) = (ls.take i).map prD := by rw [cut_take (by omega) (by simp; omega)]; simp
            have hP : P (.bl (g (.tup [.int (i : Nat), prD p]))) M := hP
            rw [ge] at hP
            have iq : ∀ Q : Bool → Prop, inQ (prD p) (.lst ((ls.take i).map prD)) M Q = Q (decide (p ∈ ls.take i)) := fun Q => in_prs
            have sq : ∀ Q : QD, slD false (.lst (ls.map prD)) none (some (i : Int)) M Q = Q (.lst ((ls.take i).map prD)) M := fun Q => by rw [← ct]; rfl
            have eq2 : endD (.var 2) (.int (i : Int)) = some (some (i : Int)) := rfl
            simp [eq2, sq, -List.map_take]
            rw [iq]
            exact hP
        · have eb : boolsD ((enumFrom 0 (ls.map prD)).map fun x => D.bl (g x)) = some ((enumFrom 0 (ls.map prD)).map g) := boolsD_all
          rw [eb, obn_some]
          refine rt_self (hQ _ ?_)
          rw [List.all_map, List.all_eq_true]
          constructor
          · intro h
            refine ⟨ls, rfl, nodup_iff.mpr fun i p hp => ?_, by omega, hb⟩
            have hm : D.tup [.int (i : Nat), prD p] ∈ enumFrom 0 (ls.map prD) := by
              have := enum_at (ds := ls.map prD) (n := 0) (i := i) (d := prD p) (by rw [List.getElem?_map, hp]; rfl)
              rw [Nat.zero_add] at this
              exact List.mem_of_getElem? this
            have h' : g (.tup [.int (i : Nat), prD p]) = true := h _ hm
            rw [ge] at h'
            simpa using h'
          · rintro ⟨ls', e, nd, _⟩ x hx
            have e := prs_inj (D.lst.inj e)
            subst e
            obtain ⟨i, d', e1, rfl⟩ := mem_enum hx
            rw [List.getElem?_map] at e1
            cases e2 : ls[i]? with
            | none => rw [e2] at e1; cases e1
            | some p =>
              rw [e2] at e1
              cases e1
              show g (.tup [.int (i : Nat), prD p]) = true
              rw [ge]
              simpa using nodup_iff.mp nd i p e2
  | ref _ => cases hp
  | dct _ _ => cases hp
  | ins _ _ => cases hp
  | ro _ _ => cases hp
  | exc _ _ => cases hp
  | _ =>
    simp
    exact no fun ⟨p, e, _⟩ => nomatch e
end L3.K02

set_option maxRecDepth 100000
set_option maxHeartbeats 4000000
namespace L3.K02
open PySem L2 K01
variable {c : Cfg}
def GoodW (a b : D) : Prop := ∃ hs, a = .lst (hs.map .int) ∧ HandsOk hs ∧ LinesP hs b
def spWebG : SpD := fun ds M Q E => ∃ a b, ds = [a, b] ∧ plainB a = true ∧ flatL a ∧ plainB b = true ∧ flatXs b ∧ (∀ hs ls, a = .lst (hs.map .int) → b = .lst (ls.map prD) → HandsOk hs → LinesOk hs ls → Q (webD hs ls) M) ∧ (¬ GoodW a b → E ⟨.NoWeb, []⟩ M)
class TIG (T : Tab) : Prop where
  h1 : lk T.fn .are_hands = some spHandsG
  h2 : lk T.fn .are_lines = some spLinesG
  h3 : lk T.fl .Web = some [.own_hands, .own_lines, .sides]
  x0 : lk T.xc .NoWeb = some []
@[simp] theorem tig1 {T : Tab} [h : TIG T] : lk T.fn .are_hands = some spHandsG := h.h1
@[simp] theorem tig2 {T : Tab} [h : TIG T] : lk T.fn .are_lines = some spLinesG := h.h2
@[simp] theorem tig3 {T : Tab} [h : TIG T] : lk T.fl .Web = some [.own_hands, .own_lines, .sides] := h.h3
@[simp] theorem tig4 {T : Tab} [h : TIG T] : lk T.xc .NoWeb = some [] := h.x0
theorem ints_inj {a b : List Int} (h : a.map D.int = b.map D.int) : a = b := by
  have := congrArg intsD h
  rw [intsD_map, intsD_map] at this
  exact Option.some.inj this
theorem w_initG {T : Tab} [hT : TIG T] : ∀ x ds M Q E, spWebG ds M Q E → M x = none → wSs T b_Web___init__ (mkK c x Q E) (env0 N_Web___init__.length (.ref x :: ds)) (up M x (.ins .Web [])) := by
  rintro x _ M Q E ⟨a, b, rfl, pa, fa, pb, fb, hQ, hE⟩ hx
  have bad : ∀ env, ¬ GoodW a b → (mkK c x Q E).ex ⟨.NoWeb, []⟩ env (up M x (.ins .Web [])) := fun env h => ⟨M, Sub.refl.up hx, hE h⟩
  by_cases hh : HandsP a
  · obtain ⟨hs, rfl, ho⟩ := hh
    by_cases hl : LinesP hs b
    · obtain ⟨ls, rfl, lo⟩ := hl
      have h := @w_init c { T with fn := [(.are_hands, spHandsOk), (.are_lines, spLinesOk)] } ⟨rfl, rfl, hT.h3⟩ x [.lst (hs.map .int), .lst (ls.map prD)] M Q E ⟨_, _, hs, ls, rfl, .inr rfl, .inr rfl, ho, lo, hQ hs ls rfl rfl ho lo⟩ hx
      have f1 : lk ({ T with fn := [(.are_hands, spHandsOk), (.are_lines, spLinesOk)] } : Tab).fn .are_hands = some spHandsOk := rfl
      have f2 : lk ({ T with fn := [(.are_hands, spHandsOk), (.are_lines, spLinesOk)] } : Tab).fn .are_lines = some spLinesOk := rfl
      have f3 : lk ({ T with fn := [(.are_hands, spHandsOk), (.are_lines, spLinesOk)] } : Tab).fl .Web = some [.own_hands, .own_lines, .sides] := hT.h3
      simp only [b_Web___init__, wSs_cons] at h ⊢
      simp [N_Web___init__, env0, varE, f1, f2] at h ⊢
      obtain ⟨d, hs', e1, _, _, h⟩ := h
      cases e1
      refine ⟨_, rfl, pa, fa, fun bb hb => ?_⟩
      have := hb.mpr ⟨hs, rfl, ho⟩
      subst this
      simp at h ⊢
      obtain ⟨_, _, _, _, e1, _, _, _, h⟩ := h
      cases e1
      refine ⟨_, hs, _, rfl, .inr rfl, pb, fb, fun bb hb => ?_⟩
      have := hb.mpr ⟨ls, rfl, lo⟩
      subst this
      simp at h ⊢
      exact h
    · simp [b_Web___init__, N_Web___init__, env0, varE]
      refine ⟨_, rfl, pa, fa, fun bb hb => ?_⟩
      have := hb.mpr ⟨hs, rfl, ho⟩
      subst this
      simp
      refine ⟨_, hs, _, rfl, .inr rfl, pb, fb, fun bb hb => ?_⟩
      have : bb = false := by
        cases bb with
        | false => rfl
        | true => exact absurd (hb.mp rfl) hl
      subst this
      simp
      exact bad _ fun ⟨hs', e, _, h⟩ => by
        have e := ints_inj (D.lst.inj e)
        subst e
        exact hl h
  · simp [b_Web___init__, N_Web___init__, env0, varE]
    refine ⟨_, rfl, pa, fa, fun bb hb => ?_⟩
    have : bb = false := by
      cases bb with
      | false => rfl
      | true => exact absurd (hb.mp rfl) hh
    subst this
    simp
    exact bad _ fun ⟨hs', e, h, _⟩ => hh ⟨hs', e, h⟩
end L3.K02

set_option maxRecDepth 100000
set_option maxHeartbeats 4000000
namespace L3.K02
open PySem L2 K01
variable {c : Cfg}
/-! ### refused -/
def spRef : SpD := fun ds M Q E => ∃ a b, ds = [a, b] ∧ plainB a = true ∧ flatL a ∧ plainB b = true ∧ flatXs b ∧ (GoodW a b → Q (.bl false) M) ∧ (¬ GoodW a b → Q (.bl true) M)
class RefT (T : Tab) : Prop where
  c0 : lk T.cl .Web = some spWebG
  s0 : lk T.sub .NoWeb = some [.NoWeb, .BeatlessError]
  o0 : T.own = [.NoHand, .NoLine, .NoWay, .NoProgram, .BeatlessError]
@[simp] theorem rf0 {T : Tab} [h : RefT T] : lk T.cl .Web = some spWebG := h.c0
@[simp] theorem rf1 {T : Tab} [h : RefT T] : lk T.sub .NoWeb = some [.NoWeb, .BeatlessError] := h.s0
theorem w_ref {T : Tab} [hT : RefT T] : ∀ ds M Q E, spRef ds M Q E → wSs T b__law_refused (fnK c Q E) (env0 N__law_refused.length ds) M := by
  rintro _ M Q E ⟨a, b, rfl, pa, fa, pb, fb, hQ, hE⟩
  have ow : ∀ n ∈ ([.NoHand, .NoLine, .NoWay, .NoProgram, .BeatlessError] : List Nm), ownOk T [.own n] = true := by
    intro n hn
    simp only [List.mem_cons, List.not_mem_nil, or_false] at hn
    have o := hT.o0
    rcases hn with rfl | rfl | rfl | rfl | rfl <;> simp [ownOk, o]
  simp at ow
  obtain ⟨w1, w2, w3, w4, w5⟩ := ow
  simp [b__law_refused, N__law_refused, env0, varE, w1, w2, w3, w4, w5]
  refine ⟨a, b, rfl, pa, fa, pb, fb, fun hs ls e1 e2 ho lo => ?_, fun gd => ?_⟩
  · have g : GoodW a b := ⟨hs, e1, ho, ls, e2, lo⟩
    show frz1 false (webD hs ls) M _
    simp [webD]
    exact rt_self (hQ g)
  · have x : ∀ n : Nm, anyT (isXT T .NoWeb) [.own n] = some (decide (n ∈ ([.NoWeb, .BeatlessError] : List Nm))) := fun n => by
      have e : isXT T .NoWeb (.own n) = some (decide (n ∈ ([.NoWeb, .BeatlessError] : List Nm))) := by
        show (match lk T.sub .NoWeb with | some l => some (decide (n ∈ l)) | none => none) = _
        rw [hT.s0]
      rw [anyT_cons e]
      cases decide (n ∈ ([.NoWeb, .BeatlessError] : List Nm)) <;> rfl
    have y : anyT (isXT T .NoWeb) [.bt "ValueError"] = some true := rfl
    simp [excE, x, y]
    first | exact rt_self (hE gd) | exact ⟨by decide, rt_self (hE gd)⟩ | exact ⟨by decide, by decide, rt_self (hE gd)⟩
/-! ### bad ones -/
structure BadP (p : D × D) : Prop where
  a : plainB p.1 = true
  b : flatL p.1
  c : plainB p.2 = true
  d : flatXs p.2
  e : ¬ GoodW p.1 p.2
def tpD (p : D × D) : D := .tup [p.1, p.2]
theorem gw_lines {hs : List Int} {e : D} (h : GoodW (.lst (hs.map .int)) e) : LinesP hs e := by
  obtain ⟨hs', e1, _, h⟩ := h
  have := ints_inj (D.lst.inj e1)
  subst this
  exact h
theorem no_hands {d e : D} (h : ¬ HandsP d) : ¬ GoodW d e := fun ⟨hs, e1, h1, _⟩ => h ⟨hs, e1, h1⟩
theorem no_line {hs : List Int} {xs : List D} {x : D} (hx : x ∈ xs) (h : ¬ lineP hs x) : ¬ GoodW (.lst (hs.map .int)) (.lst xs) := fun g => by
  obtain ⟨ls, e, lo⟩ := gw_lines g
  have e := D.lst.inj e
  subst e
  obtain ⟨p, hp, rfl⟩ := List.mem_map.mp hx
  exact h ⟨p, rfl, lo.2.2 p hp⟩
theorem no_ints {xs : List D} {x : D} (hx : x ∈ xs) (h : ∀ i, x ≠ .int i) : ¬ HandsP (.lst xs) := fun ⟨hs, e, _⟩ => by
  have e := D.lst.inj e
  subst e
  obtain ⟨i, _, e⟩ := List.mem_map.mp hx
  exact h i e.symm
theorem no_rng {xs : List Int} {i : Int} (hx : i ∈ xs) (h : ¬ (0 ≤ i ∧ i ≤ 99)) : ¬ HandsP (.lst (xs.map .int)) := fun ⟨hs, e, ho⟩ => by
  have e := ints_inj (D.lst.inj e)
  subst e
  exact h (ho.2.2.2 i hx)
theorem no_twice {xs : List Int} {z : Int} (h : z ∈ xs) : ¬ HandsP (.lst ((xs ++ [z]).map .int)) := fun ⟨hs, e, ho⟩ => by
  have e := ints_inj (D.lst.inj e)
  subst e
  have := (List.pairwise_append.mp ho.2.2.1).2.2 z h z (by simp)
  omega
theorem no_many {xs : List Int} (h : 12 < xs.length) : ¬ HandsP (.lst (xs.map .int)) := fun ⟨hs, e, ho⟩ => by
  have e := ints_inj (D.lst.inj e)
  subst e
  have := ho.2.1
  omega
theorem nodup_leG {α : Type} [DecidableEq α] : ∀ {xs ys : List α}, xs.Nodup → (∀ z ∈ xs, z ∈ ys) → xs.length ≤ ys.length
  | [], _, _, _ => Nat.zero_le _
  | x :: r, ys, nd, h => by
    rw [List.nodup_cons] at nd
    have hx := h x List.mem_cons_self
    have := nodup_leG (xs := r) (ys := ys.erase x) nd.2 fun z hz => (List.mem_erase_of_ne (fun e => nd.1 (by rw [← e]; exact hz))).mpr (h z (List.mem_cons_of_mem _ hz))
    rw [List.length_erase_of_mem hx] at this
    have := List.length_pos_of_mem hx
    simp
    omega
theorem lines_len {hs : List Int} {ls : List (Int × Int)} (ho : HandsOk hs) (lo : LinesOk hs ls) : ls.length ≤ 144 := by
  have := nodup_leG (ys := pairs hs hs) lo.1 fun p hp => mem_pairs.mpr ⟨(lo.2.2 p hp).1, (lo.2.2 p hp).2.1⟩
  rw [len_pairs] at this
  have h := ho.2.1
  exact Nat.le_trans this (Nat.mul_le_mul h h)
theorem fl_ints {xs : List Int} (h : xs.length ≤ 150) : flatL (.lst (xs.map .int)) := ⟨by simpa using h, fun x hx => by obtain ⟨i, _, rfl⟩ := List.mem_map.mp hx; rfl⟩
theorem fl_app {xs : List Int} {ys : List D} (h : xs.length + ys.length ≤ 150) (hy : ∀ y ∈ ys, flatD y = true) : flatL (.lst (xs.map .int ++ ys)) := ⟨by simpa using h, fun x hx => by
  rcases List.mem_append.mp hx with hx | hx
  · obtain ⟨i, _, rfl⟩ := List.mem_map.mp hx; rfl
  · exact hy x hx⟩
theorem fx_pr (p : Int × Int) : plainB (prD p) = true ∧ flatX (prD p) := ⟨rfl, by simp [prD, flatX, flatD]⟩
theorem fx_prs {ls : List (Int × Int)} (h : ls.length ≤ 150) : flatXs (.lst (ls.map prD)) := ⟨by simpa using h, fun x hx => by obtain ⟨i, _, rfl⟩ := List.mem_map.mp hx; exact fx_pr i⟩
theorem fx_app {ls : List (Int × Int)} {x : D} (h : ls.length ≤ 149) (h1 : plainB x = true) (h2 : flatX x) : flatXs (.lst (ls.map prD ++ [x])) := ⟨by simp; omega, fun y hy => by
  rcases List.mem_append.mp hy with hy | hy
  · obtain ⟨i, _, rfl⟩ := List.mem_map.mp hy; exact fx_pr i
  · simp at hy; subst hy; exact ⟨h1, h2⟩⟩
theorem fx_nil : flatXs (.lst []) := ⟨by simp, fun _ h => nomatch h⟩
end L3.K02

set_option maxRecDepth 100000
set_option maxHeartbeats 4000000
namespace L3.K02
open PySem L2 K01
variable {c : Cfg}
structure Bl (M : Mm) (a f : Addr) (ps : List (D × D)) : Prop where
  w : M f = some (.lst (ps.map tpD))
  o : ∀ p ∈ ps, BadP p
  q : ∃ st : List Int, M a = some (.lst (st.map .int)) ∧ stOk st
  ne : f ≠ a
theorem Bl.dig {M : Mm} {a f : Addr} {ps : List (D × D)} (h : Bl M a f ps) {st : List Int} (hs : stOk st) : Bl (up M a (.lst (st.map .int))) a f ps := ⟨by rw [up_ne h.ne]; exact h.w, h.o, ⟨st, up_same, hs⟩, h.ne⟩
theorem Bl.new {M : Mm} {a f g : Addr} {ps qs : List (D × D)} (h : Bl M a f ps) (hx : ∀ p ∈ qs, BadP p) (hg : M g = none) : Bl (up M g (.lst ((ps ++ qs).map tpD))) a g (ps ++ qs) := by
  obtain ⟨st, h1, h2⟩ := h.q
  have ne : g ≠ a := by rintro rfl; rw [hg] at h1; cases h1
  exact ⟨up_same, fun p hp => (List.mem_append.mp hp).elim (h.o p) (hx p), ⟨st, by rw [up_ne ne.symm]; exact h1, h2⟩, ne⟩
theorem Bl.add {M : Mm} {a f : Addr} {ps : List (D × D)} {p : D × D} (h : Bl M a f ps) (hp : BadP p) : Bl (up M f (.lst (ps.map tpD ++ [tpD p]))) a f (ps ++ [p]) := by
  obtain ⟨st, h1, h2⟩ := h.q
  exact ⟨by rw [up_same]; simp, fun x hx => (List.mem_append.mp hx).elim (h.o x) (fun hx => by simp at hx; subst hx; exact hp), ⟨st, by rw [up_ne h.ne.symm]; exact h1, h2⟩, h.ne⟩
theorem cat_bl {M : Mm} {a f : Addr} {ps : List (D × D)} {ds : List D} {qs : List (D × D)} {Q : QD} (h : Bl M a f ps) (hd : ds = qs.map tpD) (hx : ∀ p ∈ qs, BadP p) (hl : ps.length + qs.length ≤ 900) (hQ : ∀ g M', Bl M' a g (ps ++ qs) → Q (.ref g) M') :
    catD true (.ref f) (.lst ds) M Q := by
  subst hd
  show obn (lstD M (.ref f)) (fun xs' => obn (lstD M (.lst (qs.map tpD))) fun ys => cnd (xs'.length + ys.length ≤ sizeLine) (alL true (xs' ++ ys) M Q))
  have e : lstD M (.ref f) = some (ps.map tpD) := by simp [lstD, h.w]
  rw [e]
  refine ⟨by rw [List.length_map, List.length_map]; exact Nat.le_trans hl (by decide), fun g hg => ?_⟩
  rw [← List.map_append]
  exact hQ g _ (h.new hx hg)
theorem catD_ll {xs ys : List D} {M : Mm} {Q : QD} : catD false (.lst xs) (.lst ys) M Q = cnd (xs.length + ys.length ≤ sizeLine) (Q (.lst (xs ++ ys)) M) := rfl
theorem revD_l {xs : List D} {M : Mm} {Q : QD} : revD false (.lst xs) M Q = Q (.lst xs.reverse) M := rfl
theorem endD_i {k i : Int} : endD (.int k) (.int i) = some (some i) := rfl
theorem slD_l {m : Bool} {ds : List D} {lo hi : Option Int} {M : Mm} {Q : QD} : slD m (.lst ds) lo hi M Q = alL m (cut ds lo hi) M Q := rfl
theorem tup_l {m : Bool} {xs : List D} {M : Mm} {Q : QD} : biD m .tuple [.lst xs] M Q = Q (.tup xs) M := rfl
theorem r13 {M : Mm} : itD .rng1 [.int 13] M = some (([0, 1, 2, 3, 4, 5, 6, 7, 8, 9, 10, 11, 12] : List Int).map .int) := rfl
theorem r87 {M : Mm} : itD .rng2 [.int 87, .int 100] M = some (([87, 88, 89, 90, 91, 92, 93, 94, 95, 96, 97, 98, 99] : List Int).map .int) := rfl
theorem atI_g {α : Type} {ds : List α} {k : Nat} {d : α} (h : ds[k]? = some d) : atI ds (k : Int) = some d := by
  have hk : k < ds.length := by
    rcases Nat.lt_or_ge k ds.length with h' | h'
    · exact h'
    · rw [List.getElem?_eq_none h'] at h; cases h
  unfold atI ixN
  rw [if_pos (by omega), if_pos (by omega)]
  simpa using h
theorem at_last {α : Type} {xs : List α} (h : xs ≠ []) : atI xs (-1) = some (xs.getLast h) := by
  have hp : 0 < xs.length := List.length_pos_iff.mpr h
  have : atI xs (-1) = atI xs ((xs.length - 1 : Nat) : Int) := by
    unfold atI
    congr 1
    unfold ixN
    rw [if_neg (by omega), if_pos (by omega), if_pos (by omega), if_pos (by omega)]
    congr 1
    omega
  rw [this]
  exact atI_g (by rw [List.getLast_eq_getElem]; simp)
theorem pick_g {α : Type} {es : List α} {r : Int} (h : 0 ≤ r) (h2 : r < es.length) : ∃ e ∈ es, atI es r = some e := by
  obtain ⟨k, rfl⟩ : ∃ k : Nat, r = k := ⟨r.toNat, by omega⟩
  have hk : k < es.length := by omega
  exact ⟨es[k], List.getElem_mem _, atI_g (by simp [hk])⟩
theorem mem_cut {α : Type} {xs : List α} {lo hi : Option Int} {x : α} (h : x ∈ cut xs lo hi) : x ∈ xs := List.mem_of_mem_drop (List.mem_of_mem_take h)
theorem len_cut {α : Type} {xs : List α} {lo hi : Option Int} : (cut xs lo hi).length ≤ xs.length := by simp [cut]; omega
theorem bp_hands {d e : D} (h1 : plainB d = true) (h2 : flatL d) (h3 : plainB e = true) (h4 : flatXs e) (h : ¬ HandsP d) : BadP (d, e) := ⟨h1, h2, h3, h4, no_hands h⟩
theorem bp_lines {hs : List Int} {e : D} (ho : HandsOk hs) (h3 : plainB e = true) (h4 : flatXs e) (h : ¬ LinesP hs e) : BadP (.lst (hs.map .int), e) := ⟨rfl, fl_ints (by have := ho.2.1; omega), h3, h4, fun g => h (gw_lines g)⟩
theorem bp_line {hs : List Int} {xs : List D} {x : D} (ho : HandsOk hs) (h4 : flatXs (.lst xs)) (hx : x ∈ xs) (h : ¬ lineP hs x) : BadP (.lst (hs.map .int), .lst xs) := ⟨rfl, fl_ints (by have := ho.2.1; omega), rfl, h4, no_line hx h⟩
theorem bp_lit {xs : List Int} {e : D} (hl : xs.length ≤ 150) (h3 : plainB e = true) (h4 : flatXs e) (h : ¬ HandsOk xs) : BadP (.lst (xs.map .int), e) := bp_hands rfl (fl_ints hl) h3 h4 fun ⟨hs, e, ho⟩ => by
  have e := ints_inj (D.lst.inj e)
  subst e
  exact h ho
def spBad : SpD := fun ds M Q E => ∃ hs ls a, ds = [.lst (hs.map .int), .lst (ls.map prD), .ref a] ∧ HandsOk hs ∧ LinesOk hs ls ∧ (∃ st : List Int, M a = some (.lst (st.map .int)) ∧ stOk st) ∧ ∀ p M', BadP p → Q (tpD p) M'
class BadT (T : Tab) : Prop where
  h0 : lk T.fn ._law_digit = some spDigit
@[simp] theorem bd0 {T : Tab} [h : BadT T] : lk T.fn ._law_digit = some spDigit := h.h0
def bdA : List SS := b__law_bad.take 6
def bdB : List SS := b__law_bad.drop 6
theorem bad_a {T : Tab} [hT : BadT T] {M : Mm} {hs : List Int} {ls : List (Int × Int)} {a : Addr} {K : KD} (ho : HandsOk hs) (lo : LinesOk hs ls) (ha : ∃ st : List Int, M a = some (.lst (st.map .int)) ∧ stOk st) (top : Int) (ht : atI hs (-1) = some top)
    (hK : ∀ f ps M', Bl M' a f ps → ps.length ≤ 100 → ps ≠ [] → K.nx [some (.lst (hs.map .int)), some (.lst (ls.map prD)), some (.ref a), some (.int top), some (.ref f), none, none, none, none, none, none] M') :
    wSs T bdA K [some (.lst (hs.map .int)), some (.lst (ls.map prD)), some (.ref a), none, none, none, none, none, none, none, none] M := by
  have h12 := ho.2.1
  have ne : hs ≠ [] := fun e => by have := ho.1; rw [e] at this; simp at this
  have hp := ho.1
  have l144 := lines_len ho lo
  have lsx : flatXs (.lst (ls.map prD)) := fx_prs (by omega)
  have tm : top ∈ hs := by
    rw [at_last ne] at ht
    cases ht
    exact List.getLast_mem ne
  obtain ⟨h0, m0, a0⟩ : ∃ h0 ∈ hs, atI hs 0 = some h0 := pick_g (by omega) (by omega)
  simp [bdA, b__law_bad, varE, negD, ht, catD_ll, revD_l, endD_i, slD_l, tup_l, r13, r87]
  refine ⟨small (by omega), ?_⟩
  rw [a0]
  refine ⟨small (by omega), small (by omega), small (by omega), fun f hf => ?_⟩
  obtain ⟨st, g1, g2⟩ := ha
  have nf : f ≠ a := by rintro rfl; rw [hf] at g1; cases g1
  have t0 : Bl (up M f (.lst [.tup [.lst (hs.map .int ++ [.int top]), .lst (ls.map prD)], .tup [.lst ((hs.map .int).reverse ++ [.int h0]), .lst (ls.map prD)], .tup [.lst (.int (-1) :: hs.map .int), .lst (ls.map prD)], .tup [.lst (hs.map .int ++ [.int 100]), .lst (ls.map prD)]])) a f
      [(.lst ((hs ++ [top]).map .int), .lst (ls.map prD)), (.lst ((hs.reverse ++ [h0]).map .int), .lst (ls.map prD)), (.lst ((-1 :: hs).map .int), .lst (ls.map prD)), (.lst ((hs ++ [100]).map .int), .lst (ls.map prD))] := by
    refine ⟨by rw [up_same]; simp [tpD], fun p hp => ?_, ⟨st, by rw [up_ne nf.symm]; exact g1, g2⟩, nf⟩
    simp only [List.mem_cons, List.not_mem_nil, or_false] at hp
    rcases hp with rfl | rfl | rfl | rfl
    · exact bp_hands rfl (fl_ints (by simp; omega)) rfl lsx (no_twice tm)
    · exact bp_hands rfl (fl_ints (by simp; omega)) rfl lsx (no_twice (by simpa using m0))
    · exact bp_hands rfl (fl_ints (by simp; omega)) rfl lsx (no_rng List.mem_cons_self (by omega))
    · exact bp_hands rfl (fl_ints (by simp; omega)) rfl lsx (no_rng (i := 100) (by simp) (by omega))
  generalize up M f (.lst [.tup [.lst (hs.map .int ++ [.int top]), .lst (ls.map prD)], .tup [.lst ((hs.map .int).reverse ++ [.int h0]), .lst (ls.map prD)], .tup [.lst (.int (-1) :: hs.map .int), .lst (ls.map prD)], .tup [.lst (hs.map .int ++ [.int 100]), .lst (ls.map prD)]]) = M1 at *
  let pp : D → Bool := fun x => match x with
    | .int i => decide (1 < i)
    | _ => false
  refine ⟨small (by simp; omega), compL_filter pp id _ _ _ _ rfl (fun x hx => ?_) ?_⟩
  · obtain ⟨i, _, rfl⟩ := List.mem_map.mp hx
    exact ⟨_, rfl, fun P hP => hP, fun _ P hP => hP⟩
  have fm : ∀ x ∈ cut ([] ++ ((hs.map D.int).filter pp).map id) none (some 3), flatD x = true := fun x hx => by
    have := mem_cut hx
    simp only [List.nil_append, List.map_id, List.mem_filter] at this
    obtain ⟨i, _, rfl⟩ := List.mem_map.mp this.1
    rfl
  have fl : (cut ([] ++ ((hs.map D.int).filter pp).map id) none (some 3)).length ≤ 12 := Nat.le_trans len_cut (by
    simp only [List.nil_append, List.map_id]
    refine Nat.le_trans (List.length_filter_le _ _) (by simp; omega))
  generalize cut ([] ++ ((hs.map D.int).filter pp).map id) none (some 3) = cx at *
  refine ⟨small (by omega), ?_⟩
  have nn : plainB (.lst []) = true ∧ flatXs (.lst []) := ⟨rfl, fx_nil⟩
  refine cat_bl (qs := [(.lst (cx ++ [.bl true]), .lst []), (.lst [.str "0"], .lst []), (.lst [.non], .lst []), (.lst [], .lst [])]) t0 rfl (fun p hp => ?_) (by simp) fun f1 M2 t1 => ?_
  · simp only [List.mem_cons, List.not_mem_nil, or_false] at hp
    rcases hp with rfl | rfl | rfl | rfl
    · refine bp_hands rfl ⟨by simp; omega, fun x hx => ?_⟩ rfl fx_nil (no_ints (x := .bl true) (by simp) fun i => (nomatch ·))
      rcases List.mem_append.mp hx with hx | hx
      · exact fm x hx
      · simp at hx; subst hx; rfl
    · exact bp_hands rfl ⟨by simp, fun x hx => by simp at hx; subst hx; rfl⟩ rfl fx_nil (no_ints (x := .str "0") (by simp) fun i => (nomatch ·))
    · exact bp_hands rfl ⟨by simp, fun x hx => by simp at hx; subst hx; rfl⟩ rfl fx_nil (no_ints (x := .non) (by simp) fun i => (nomatch ·))
    · exact bp_lit (xs := []) (by simp) rfl fx_nil fun h => by have := h.1; simp at this
  have c1 : ∀ {qs : List (D × D)}, True := trivial
  simp only [addD_ref]
  refine cat_bl (qs := [(.tup (hs.map .int), .lst (ls.map prD)), (.non, .lst (ls.map prD)), (.lst (([0, 1, 2, 3, 4, 5, 6, 7, 8, 9, 10, 11, 12] : List Int).map .int), .lst []), (.lst (([87, 88, 89, 90, 91, 92, 93, 94, 95, 96, 97, 98, 99] : List Int).map .int), .lst [])]) t1 rfl (fun p hp => ?_) (by simp) fun f2 M3 t2 => ?_
  · simp only [List.mem_cons, List.not_mem_nil, or_false] at hp
    rcases hp with rfl | rfl | rfl | rfl
    · exact bp_hands rfl trivial rfl lsx fun ⟨_, e, _⟩ => nomatch e
    · exact bp_hands rfl trivial rfl lsx fun ⟨_, e, _⟩ => nomatch e
    · exact bp_lit (by simp) rfl fx_nil fun h => by have := h.2.1; simp at this
    · exact bp_lit (by simp) rfl fx_nil fun h => by have := h.2.1; simp at this
  refine ⟨cpow_ok 20 (by omega), ?_⟩
  simp only [addD_ref]
  refine cat_bl (qs := [(.lst (([3, 2] : List Int).map .int), .lst []), (.lst (([5, 5] : List Int).map .int), .lst []), (.lst (([0, 1, 99, 98] : List Int).map .int), .lst []), (.lst [.bl false], .lst []), (.lst (([0, 100000000000000000000] : List Int).map .int), .lst []), (.str "0", .lst [])]) t2 rfl (fun p hp => ?_) (by simp) fun f3 M4 t3 => ?_
  · simp only [List.mem_cons, List.not_mem_nil, or_false] at hp
    rcases hp with rfl | rfl | rfl | rfl | rfl | rfl
    · exact bp_lit (by simp) rfl fx_nil fun h => by have := h.2.2.1; simp at this
    · exact bp_lit (by simp) rfl fx_nil fun h => by have := h.2.2.1; simp at this
    · exact bp_lit (by simp) rfl fx_nil fun h => by have := h.2.2.1; simp at this
    · exact bp_hands rfl ⟨by simp, fun x hx => by simp at hx; subst hx; rfl⟩ rfl fx_nil (no_ints (x := .bl false) (by simp) fun i => (nomatch ·))
    · exact bp_lit (by simp) rfl fx_nil fun h => by have := h.2.2.2 100000000000000000000 (by simp); omega
    · exact bp_hands rfl trivial rfl fx_nil fun ⟨_, e, _⟩ => nomatch e
  refine ⟨small (by omega), small (by omega), ?_⟩
  simp only [addD_ref]
  refine cat_bl (qs := [(.lst (hs.map .int), .tup (ls.map prD)), (.lst (hs.map .int), .non), (.lst (hs.map .int), .lst (ls.map prD ++ [.non])), (.lst (hs.map .int), .lst (ls.map prD ++ [prD (top, top)]))]) t3 rfl (fun p hp => ?_) (by simp) fun f4 M5 t4 => ?_
  · simp only [List.mem_cons, List.not_mem_nil, or_false] at hp
    rcases hp with rfl | rfl | rfl | rfl
    · exact bp_lines ho rfl trivial fun ⟨_, e, _⟩ => nomatch e
    · exact bp_lines ho rfl trivial fun ⟨_, e, _⟩ => nomatch e
    · exact bp_line (x := .non) ho (fx_app (by omega) rfl trivial) (by simp) fun ⟨_, e, _⟩ => nomatch e
    · refine bp_line (x := prD (top, top)) ho (fx_app (by omega) (fx_pr _).1 (fx_pr _).2) (by simp) fun ⟨⟨u, v⟩, e, _, _, lt⟩ => ?_
      simp [prD] at e
      obtain ⟨rfl, rfl⟩ := e
      simp at lt
  exact hK f4 _ M5 t4 (by simp) (by simp)
end L3.K02

set_option maxRecDepth 100000
set_option maxHeartbeats 4000000
namespace L3.K02
open PySem L2 K01
variable {c : Cfg}
theorem eq_nilp {ls : List (Int × Int)} {M : Mm} {Q : Bool → Prop} : eqQ (.lst (ls.map prD)) (.lst []) M Q = Q (decide (ls = [])) := eq_prs (js := [])
theorem eq_pr {p q : Int × Int} {M : Mm} {Q : Bool → Prop} : eqQ (prD p) (prD q) M Q = Q (decide (p = q)) := by
  unfold eqQ
  rw [rs_pr, rs_pr, rs_pr, rs_pr, pu_pr (by omega), pu_pr (by omega), eqv_pr]
  simp [cnd]
theorem dig_use {M : Mm} {a : Addr} {st : List Int} {b : Int} {m : Bool} {Q : QD} {E : QX} (hb : 0 < b) (hb2 : b < 2 ^ 110) (ha : M a = some (.lst (st.map .int))) (hs : stOk st) (hQ : ∀ r st', 0 ≤ r → r < b → stOk st' → Q (.int r) (up M a (.lst (st'.map .int)))) :
    spDigit [.ref a, .int b] M (fun d M' => frz1 m d M' Q) E := ⟨a, st, b, rfl, hb, hb2, ha, hs, fun r st' h1 h2 h3 => by cases m <;> exact hQ r st' h1 h2 h3⟩
theorem obi {α : Type} {o : Option α} {d : α} {Q : α → Prop} (h : o = some d) (hQ : Q d) : obn o Q := by rw [h]; exact hQ
theorem compL_filts {α : Type} {chk : Mm → Prop} {wc we : Env → Mm → (D → Mm → Prop) → Prop} {tg : Tg} {env : Env} (g : α → D) (p : α → Bool) : ∀ (xs : List α) (acc : List D) (M : Mm) (Q : List D → Mm → Prop), chk M →
    (∀ x ∈ xs, ∃ env', bindT tg (g x) M env = some env' ∧ (∀ P : D → Mm → Prop, P (.bl (p x)) M → wc env' M P) ∧ (∀ P : D → Mm → Prop, P (g x) M → we env' M P)) → Q (acc ++ (xs.filter p).map g) M → compL chk wc we tg env (xs.map g) acc M Q
  | [], acc, M, Q, hc, _, hQ => ⟨hc, by simpa using hQ⟩
  | x :: r, acc, M, Q, hc, h, hQ => by
    obtain ⟨env', e, h1, h2⟩ := h x List.mem_cons_self
    refine ⟨hc, ?_⟩
    rw [e]
    refine h1 _ ?_
    show obn (some (p x)) _
    cases hp : p x with
    | true => exact h2 _ (compL_filts g p r _ M Q hc (fun y hy => h y (List.mem_cons_of_mem _ hy)) (by simpa [hp] using hQ))
    | false => exact compL_filts g p r _ M Q hc (fun y hy => h y (List.mem_cons_of_mem _ hy)) (by simpa [hp] using hQ)
theorem compQ_filts {α : Type} {chk : List D → Mm → Prop} {wc we : Env → Mm → (D → Mm → Prop) → Prop} {tg : Tg} {env : Env} {M : Mm} {Q : List D → Mm → Prop} (xs : List α) (g : α → D) (p : α → Bool) (hl : xs.length ≤ sizeLine) (hc : chk (xs.map g) M)
    (h : ∀ x ∈ xs, ∃ env', bindT tg (g x) M env = some env' ∧ (∀ P : D → Mm → Prop, P (.bl (p x)) M → wc env' M P) ∧ (∀ P : D → Mm → Prop, P (g x) M → we env' M P)) (hQ : Q ((xs.filter p).map g) M) : compQ chk wc we tg env (some (xs.map g)) M Q :=
  ⟨by rw [List.length_map]; exact hl, compL_filts g p xs [] M Q hc h (by simpa using hQ)⟩
theorem bad_b {T : Tab} [hT : BadT T] {M : Mm} {hs : List Int} {ls : List (Int × Int)} {a f : Addr} {Q : QD} {E : QX} (ho : HandsOk hs) (lo : LinesOk hs ls) (top : Int) (tm : top ∈ hs) {ps : List (D × D)} (t0 : Bl M a f ps) (hl : ps.length ≤ 100) (hne : ps ≠ [])
    (hQ : ∀ p M', BadP p → Q (tpD p) M') :
    wSs T bdB (fnK c Q E) [some (.lst (hs.map .int)), some (.lst (ls.map prD)), some (.ref a), some (.int top), some (.ref f), none, none, none, none, none, none] M := by
  have h12 := ho.2.1
  have hp := ho.1
  have l144 := lines_len ho lo
  have lsx : flatXs (.lst (ls.map prD)) := fx_prs (by omega)
  obtain ⟨h0, m0, a0⟩ : ∃ h0 ∈ hs, atI hs 0 = some h0 := pick_g (by omega) (by omega)
  have t99 := ho.2.2.2
  simp [bdB, b__law_bad, varE, negD, a0]
  refine forQ_start (items := [.tup [.int h0, .int 100], .tup [.int (-1), .int top], .lst [.int h0, .int top], .tup [.int h0], .tup [.int h0, .int top, .int top], .tup [.str "0", .int top], .tup [.non, .int top]]) rfl ?_
  refine forQ_ind (fun xs env M' => (∀ x ∈ xs, plainB x = true ∧ flatX x ∧ ¬ lineP hs x) ∧ ∃ ps p5 p6, env = [some (.lst (hs.map .int)), some (.lst (ls.map prD)), some (.ref a), some (.int top), some (.ref f), p5, p6, none, none, none, none] ∧ Bl M' a f ps ∧ ps.length + xs.length ≤ 120 ∧ ps ≠ []) ⟨fun x hx => ?_, ps, _, _, rfl, t0, by simp; omega, hne⟩ ?_ ?_ ?_
  · simp only [List.mem_cons, List.not_mem_nil, or_false] at hx
    rcases hx with rfl | rfl | rfl | rfl | rfl | rfl | rfl
    · refine ⟨rfl, ⟨by simp, by simp [flatD]⟩, fun ⟨⟨u, v⟩, e, _, h2, _⟩ => ?_⟩
      simp [prD] at e
      obtain ⟨rfl, rfl⟩ := e
      have := t99 _ h2
      simp at this
    · refine ⟨rfl, ⟨by simp, by simp [flatD]⟩, fun ⟨⟨u, v⟩, e, h1, _, _⟩ => ?_⟩
      simp [prD] at e
      obtain ⟨rfl, rfl⟩ := e
      have := t99 _ h1
      simp at this
    · exact ⟨rfl, ⟨by simp, by simp [flatD]⟩, fun ⟨_, e, _⟩ => nomatch e⟩
    · exact ⟨rfl, ⟨by simp, by simp [flatD]⟩, fun ⟨_, e, _⟩ => by simp [prD] at e⟩
    · exact ⟨rfl, ⟨by simp, by simp [flatD]⟩, fun ⟨_, e, _⟩ => by simp [prD] at e⟩
    · exact ⟨rfl, ⟨by simp, by simp [flatD]⟩, fun ⟨_, e, _⟩ => by simp [prD] at e⟩
    · exact ⟨rfl, ⟨by simp, by simp [flatD]⟩, fun ⟨_, e, _⟩ => by simp [prD] at e⟩
  · intros; rfl
  · rintro x xs _ M2 F ⟨hx, ps2, p5, p6, rfl, t2, hl2, hne2⟩ hF
    simp only [List.length_cons] at hl2
    obtain ⟨g1, g2, g3⟩ := hx x List.mem_cons_self
    refine ⟨_, rfl, ?_⟩
    simp [t2.w, catD_ll]
    refine ⟨small (by omega), Nat.lt_of_lt_of_le (show ps2.length < 1000 by omega) (by decide), ?_⟩
    exact hF _ _ ⟨fun y hy => hx y (List.mem_cons_of_mem _ hy), _, _, _, rfl, t2.add (bp_line (x := x) ho (fx_app (by omega) g1 g2) (by simp) g3), by simp; omega, by simp⟩
  · rintro _ M2 ⟨_, ps2, p5, p6, rfl, t2, hl2, hne2⟩
    have fin : ∀ {M3 : Mm} {f3 : Addr} {ps3 : List (D × D)} {q6 q7 q8 q9 q10 : Option D}, Bl M3 a f3 ps3 → ps3 ≠ [] → ps3.length ≤ 200 → obn (lenC (M3 f3)) fun n => spDigit [.ref a, .int n] M3 (fun d M' => frz1 false d M' fun y M' => ixC (M' f3) y fun v => (fnK c Q E).rt v M') (fun x M' => (fnK c Q E).ex x [some (.lst (hs.map .int)), some (.lst (ls.map prD)), some (.ref a), some (.int top), some (.ref f3), p5, q6, q7, q8, q9, q10] M') := fun {M3 f3 ps3 q6 q7 q8 q9 q10} t3 h3 h4 => by
      obtain ⟨st3, g3, hs3⟩ := t3.q
      have hp3 := List.length_pos_iff.mpr h3
      rw [t3.w]
      simp
      refine dig_use (by omega) (by omega) g3 hs3 fun r st4 r1 r2 hs4 => ?_
      have t4 := t3.dig hs4
      obtain ⟨p, hp, ep⟩ := pick_g r1 r2
      rw [t4.w]
      simp
      rw [ep]
      exact rt_self (hQ p _ (t4.o p hp))
    simp [eq_nilp]
    refine br_cases (fun hb => ?_) (fun hb => fin t2 hne2 (by omega))
    have hls : ls ≠ [] := by simpa using hb
    have lp : 0 < ls.length := List.length_pos_iff.mpr hls
    obtain ⟨st, g1, gs⟩ := t2.q
    refine dig_use (by omega) (by omega) g1 gs fun r st' r1 r2 hs' => ?_
    have t3 := t2.dig hs'
    obtain ⟨⟨one, oth⟩, pm, ep⟩ := pick_g r1 r2
    generalize up M2 a (.lst (st'.map .int)) = M3 at *
    have lq := lo.2.2 _ pm
    simp at lq
    have gl : ∀ {x : D}, plainB x = true → flatX x → flatXs (.lst (ls.map prD ++ [x])) := fun h1 h2 => fx_app (by omega) h1 h2
    have e1 : ∀ {Q' : D → Prop}, Q' (.tup [.int one, .int oth]) → ixD (.lst (ls.map prD)) (.int r) M3 Q' := fun {Q'} h => by
      simp [ep, prD]
      exact h
    refine e1 ?_
    refine obi rfl ?_
    refine obi (show _ = some [some (.lst (hs.map .int)), some (.lst (ls.map prD)), some (.ref a), some (.int top), some (.ref f), p5, p6, some (.int one), some (.int oth), none, none] from rfl) ?_
    simp [catD_ll, prD]
    have lt : ∀ {p : Int × Int} {xs : List D}, ¬ p.1 < p.2 → prD p ∈ xs → flatXs (.lst xs) → BadP (.lst (hs.map .int), .lst xs) := fun {p xs} h hm hf => bp_line (x := prD p) ho hf hm fun ⟨⟨u, v⟩, e, _, _, l⟩ => by
      simp [prD] at e
      obtain ⟨e1, e2⟩ := e
      rw [e1, e2] at h
      exact h l
    refine ⟨small (by omega), small (by omega), small (by omega), ?_⟩
    refine cat_bl (qs := [(.lst (hs.map .int), .lst (ls.map prD ++ [prD (one, oth)])), (.lst (hs.map .int), .lst (prD (oth, one) :: ls.map prD)), (.lst (hs.map .int), .lst (ls.map prD ++ [prD (one, one)]))]) t3 rfl (fun p hp => ?_) (by simp; omega) fun f1 M4 t4 => ?_
    · simp only [List.mem_cons, List.not_mem_nil, or_false] at hp
      rcases hp with rfl | rfl | rfl
      · refine bp_lines ho rfl (gl (fx_pr _).1 (fx_pr _).2) fun ⟨ls', e, lo'⟩ => ?_
        have e := D.lst.inj e
        have e2 : (ls ++ [(one, oth)]).map prD = ls'.map prD := by rw [← e]; simp
        have e3 := prs_inj e2
        subst e3
        have := (List.nodup_append.mp lo'.1).2.2 _ pm (one, oth) (by simp)
        exact this rfl
      · refine lt (p := (oth, one)) (by simp; omega) (by simp) ?_
        have : prD (oth, one) :: ls.map prD = ((oth, one) :: ls).map prD := rfl
        rw [this]
        exact fx_prs (by simp; omega)
      · exact lt (p := (one, one)) (by simp) (by simp) (gl (fx_pr _).1 (fx_pr _).2)
    refine ⟨small (by omega), compQ_filts hs .int (fun h => !decide (h = one)) (small (by omega)) rfl (fun x hx => ⟨_, rfl, fun P hP => ?_, fun P hP => hP⟩) ?_⟩
    · simp
      exact hP
    simp only [addD_ref]
    have fl1 : (hs.filter fun h => !decide (h = one)).length ≤ hs.length := List.length_filter_le _ _
    refine cat_bl (qs := [(.lst (hs.map .int), .lst (ls.map prD ++ [.lst [.int one, .int oth]])), (.lst ((hs.filter fun h => !decide (h = one)).map .int), .lst (ls.map prD))]) t4 rfl (fun p hp => ?_) (by simp; omega) fun f2 M5 t5 => ?_
    · simp only [List.mem_cons, List.not_mem_nil, or_false] at hp
      rcases hp with rfl | rfl
      · exact bp_line (x := .lst [.int one, .int oth]) ho (gl rfl ⟨by simp, by simp [flatD]⟩) (by simp) fun ⟨_, e, _⟩ => nomatch e
      · refine ⟨rfl, fl_ints (by omega), rfl, lsx, fun g => ?_⟩
        obtain ⟨ls', e, lo'⟩ := gw_lines g
        have := prs_inj (D.lst.inj e)
        subst this
        have := (lo'.2.2 _ pm).1
        simp at this
    refine compQ_filts ls prD (fun q => !decide (q = (one, oth))) (small (by omega)) rfl (fun x hx => ⟨_, rfl, fun P hP => ?_, fun P hP => hP⟩) ?_
    · simp
      show eqQ (prD x) (prD (one, oth)) _ _
      rw [eq_pr]
      exact hP
    have fl2 : (ls.filter fun q => !decide (q = (one, oth))).length ≤ ls.length := List.length_filter_le _ _
    generalize (ls.filter fun q => !decide (q = (one, oth))) = lt2 at *
    refine ⟨small (by simp; omega), ?_⟩
    refine cat_bl (qs := [(.lst (hs.map .int), .lst [prD (oth, one)]), (.lst (hs.map .int), .lst (lt2.map prD ++ [prD (oth, one)])), (.lst (hs.map .int), .lst [prD (one, one)])]) t5 rfl (fun p hp => ?_) (by simp; omega) fun f3 M6 t6 => ?_
    · simp only [List.mem_cons, List.not_mem_nil, or_false] at hp
      rcases hp with rfl | rfl | rfl
      · exact lt (p := (oth, one)) (by simp; omega) (by simp) (fx_prs (ls := [(oth, one)]) (by simp))
      · exact lt (p := (oth, one)) (by simp; omega) (by simp) (fx_app (by omega) (fx_pr _).1 (fx_pr _).2)
      · exact lt (p := (one, one)) (by simp) (by simp) (fx_prs (ls := [(one, one)]) (by simp))
    have F := @fin _ _ _ p6 (some (.int one)) (some (.int oth)) (some (.lst (lt2.map prD))) none t6 (by simp) (by simp; omega)
    simp
    exact F
end L3.K02

set_option maxRecDepth 100000
set_option maxHeartbeats 4000000
namespace L3.K02
open PySem L2 K01
variable {c : Cfg}
theorem w_bad {T : Tab} [hT : BadT T] : ∀ ds M Q E, spBad ds M Q E → wSs T b__law_bad (fnK c Q E) (env0 N__law_bad.length ds) M := by
  rintro _ M Q E ⟨hs, ls, a, rfl, ho, lo, ha, hQ⟩
  show wSs T (bdA ++ bdB) _ _ _
  rw [wSs_app]
  have ne : hs ≠ [] := fun e => by have := ho.1; rw [e] at this; simp at this
  refine bad_a ho lo ha (hs.getLast ne) (at_last ne) fun f ps M' t0 hl hne => ?_
  exact bad_b ho lo _ (List.getLast_mem ne) t0 hl hne hQ
/-! ### the law -/
class LawT (T : Tab) : Prop where
  h0 : lk T.fn ._law_web = some spLawWeb
  h1 : lk T.fn ._law_cell_at = some K01.spCell
  h2 : lk T.fn ._law_refused = some spRef
  h3 : lk T.fn ._law_bad = some spBad
@[simp] theorem lw0 {T : Tab} [h : LawT T] : lk T.fn ._law_web = some spLawWeb := h.h0
@[simp] theorem lw1 {T : Tab} [h : LawT T] : lk T.fn ._law_cell_at = some K01.spCell := h.h1
@[simp] theorem lw2 {T : Tab} [h : LawT T] : lk T.fn ._law_refused = some spRef := h.h2
@[simp] theorem lw3 {T : Tab} [h : LawT T] : lk T.fn ._law_bad = some spBad := h.h3
theorem ref_no {M : Mm} {a b : D} {f : Bool} {Q : QD} {E : QX} (pa : plainB a = true) (fa : flatL a) (pb : plainB b = true) (fb : flatXs b) (g : GoodW a b) (hQ : Q (.bl false) M) : spRef [a, b] M (fun d M' => frz1 f d M' Q) E :=
  ⟨a, b, rfl, pa, fa, pb, fb, fun _ => by cases f <;> exact hQ, fun h => absurd g h⟩
theorem ref_yes {M : Mm} {a b : D} {f : Bool} {Q : QD} {E : QX} (h : BadP (a, b)) (hQ : Q (.bl true) M) : spRef [a, b] M (fun d M' => frz1 f d M' Q) E :=
  ⟨a, b, rfl, h.a, h.b, h.c, h.d, fun g => absurd g h.e, fun _ => by cases f <;> exact hQ⟩
def lwA : List SS := b_law.take 2
def lwB : List SS := (b_law.drop 2).take 1
def lwC : List SS := b_law.drop 3
theorem law_a {T : Tab} [hT : LawT T] {M : Mm} {t : Bool} {ns : List Int} {F : Env → Mm → Prop} {Kr : QD} {Kb Kc : Env → Mm → Prop} {Ke : XD → Env → Mm → Prop}
    (hF : ∀ hs ls M', HandsOk hs → LinesOk hs ls → F [some (.ro t (ns.map .int)), some (.lst (hs.map .int)), some (.lst (ls.map prD)), none, none, none, none, none, none] M') :
    wSs T lwA { nx := F, rt := Kr, bk := Kb, ct := Kc, ex := Ke } (env0 N_law.length [.ro t (ns.map .int)]) M := by
  simp [lwA, b_law, N_law, env0, varE]
  refine ⟨t, ns, 0, rfl, fun x => ?_⟩
  simp
  intro a ha
  refine ⟨a, [x], rfl, by rw [up_same]; rfl, .inl ⟨x, rfl⟩, fun hs ls st' ho lo hst => ?_⟩
  refine obi rfl ?_
  refine obi rfl ?_
  refine obi (show _ = some [some (.ro t (ns.map .int)), some (.lst (hs.map .int)), some (.lst (ls.map prD)), none, none, none, none, none, none] from rfl) ?_
  refine obi rfl (obi rfl ?_)
  refine ref_no rfl (fl_ints (by have := ho.2.1; omega)) rfl (fx_prs (by have := lines_len ho lo; omega)) ⟨hs, rfl, ho, ls, rfl, lo⟩ ?_
  simp
  exact hF hs ls _ ho lo
theorem law_b {T : Tab} [hT : LawT T] {M : Mm} {t : Bool} {ns hs : List Int} {ls : List (Int × Int)} {F : Env → Mm → Prop} {Kr : QD} {Kb Kc : Env → Mm → Prop} {Ke : XD → Env → Mm → Prop} (ho : HandsOk hs) (lo : LinesOk hs ls) (hl : ns.length ≤ 63)
    (hF : ∀ v3 v6 v7 M', F [some (.ro t (ns.map .int)), some (.lst (hs.map .int)), some (.lst (ls.map prD)), v3, none, none, v6, v7, none] M') :
    wSs T lwB { nx := F, rt := Kr, bk := Kb, ct := Kc, ex := Ke } [some (.ro t (ns.map .int)), some (.lst (hs.map .int)), some (.lst (ls.map prD)), none, none, none, none, none, none] M := by
  simp [lwB, b_law, varE]
  have hlim : (if (2 : Int) < (if (ns.length : Int) < 40 then (ns.length : Int) else 40) then (if (ns.length : Int) < 40 then (ns.length : Int) else 40) else 2) ≤ 100 ∧ 0 ≤ (if (2 : Int) < (if (ns.length : Int) < 40 then (ns.length : Int) else 40) then (if (ns.length : Int) < 40 then (ns.length : Int) else 40) else 2) := by
    split <;> (try split) <;> omega
  generalize (if (2 : Int) < (if (ns.length : Int) < 40 then (ns.length : Int) else 40) then (if (ns.length : Int) < 40 then (ns.length : Int) else 40) else 2) = lim at *
  refine forQ_start (itD_rng2 ⟨⟨by omega, by omega⟩, by omega, by omega⟩) ?_
  refine forQ_ind (fun xs env M' => (∀ y ∈ xs, ∃ j : Nat, y = .int (j : Nat) ∧ j ≤ 200) ∧ ∃ p3 p6 p7, env = [some (.ro t (ns.map .int)), some (.lst (hs.map .int)), some (.lst (ls.map prD)), p3, none, none, p6, p7, none]) ⟨fun y hy => ?_, _, _, _, rfl⟩ ?_ ?_ ?_
  · obtain ⟨i, h1, rfl⟩ := mem_rng hy
    exact ⟨1 + i, by simp, by omega⟩
  · intros; exact itD_rng2 ⟨⟨by omega, by omega⟩, by omega, by omega⟩
  · rintro y ys _ M2 F2 ⟨hy, p3, p6, p7, rfl⟩ hF2
    obtain ⟨j, rfl, hj⟩ := hy _ List.mem_cons_self
    have hys : ∀ y ∈ ys, ∃ j : Nat, y = .int (j : Nat) ∧ j ≤ 200 := fun y h => hy y (List.mem_cons_of_mem _ h)
    refine ⟨_, rfl, ?_⟩
    simp
    refine ⟨t, ns, j, rfl, fun x2 => ?_⟩
    simp
    refine ⟨cmulR (by omega) (by omega), ?_⟩
    generalize x2 + 7 * (j : Int) = cl
    intro a ha
    refine ⟨hs, ls, a, rfl, ho, lo, ⟨[cl], by rw [up_same]; rfl, .inl ⟨cl, rfl⟩⟩, fun p M3 hp => ?_⟩
    refine obi rfl ?_
    refine obi rfl ?_
    refine obi (show _ = some [some (.ro t (ns.map .int)), some (.lst (hs.map .int)), some (.lst (ls.map prD)), some (.int j), none, none, some p.1, some p.2, none] from rfl) ?_
    refine obi rfl (obi rfl ?_)
    refine ref_yes hp ?_
    simp
    exact hF2 _ _ ⟨hys, _, _, _, rfl⟩
  · rintro _ M2 ⟨_, p3, p6, p7, rfl⟩
    exact hF _ _ _ _
def star (g : Int × List Int) : List (Int × Int) := g.2.map fun o => (g.1, o)
def goods : List (Int × List Int) := [(0, []), (99, []), (0, [8, 16, 24, 32, 40, 48, 56, 64, 72, 80, 99]), (88, [89, 90, 91, 92, 93, 94, 95, 96, 97, 98, 99])]
theorem good_all : ∀ g ∈ goods, HandsOk (g.1 :: g.2) ∧ LinesOk (g.1 :: g.2) (star g) := by
  unfold HandsOk LinesOk
  decide
theorem good_w {g : Int × List Int} (h : g ∈ goods) : GoodW (.lst ((g.1 :: g.2).map .int)) (.lst ((star g).map prD)) := ⟨_, rfl, (good_all g h).1, _, rfl, (good_all g h).2⟩
def gD (g : Int × List Int) : D := .lst ((g.1 :: g.2).map .int)
theorem r111 {M : Mm} : itD .rng2 [.int 1, .int 11] M = some (([1, 2, 3, 4, 5, 6, 7, 8, 9, 10] : List Int).map .int) := rfl
theorem r88 {M : Mm} : itD .rng2 [.int 88, .int 100] M = some (([88, 89, 90, 91, 92, 93, 94, 95, 96, 97, 98, 99] : List Int).map .int) := rfl
theorem cut1 {x : D} {r : List D} : cut (x :: r) (some 1) none = r := by
  simp [cut, HT.sIx]
  try omega
theorem law_c {T : Tab} [hT : LawT T] {M : Mm} {s h l v3 v6 v7 : Option D} {Q : QD} {E : QX} (hQ : ∀ M', Q (.bl true) M') :
    wSs T lwC (fnK c Q E) [s, h, l, v3, none, none, v6, v7, none] M := by
  simp [lwC, b_law, varE, r111, r88]
  refine compQ_maps [1, 2, 3, 4, 5, 6, 7, 8, 9, 10] .int (fun k => .int (8 * k)) (small (by simp)) rfl (fun x hx => ⟨_, rfl, fun P hP => by simpa using hP, fun P hP => ?_⟩) ?_
  · simp
    have : 1 ≤ x ∧ x ≤ 10 := by
      have h := hx
      simp at h
      omega
    refine ⟨cmulR (by omega) (by omega), hP⟩
  simp [catD_ll]
  refine ⟨small (by omega), small (by omega), ?_⟩
  refine forQ_start (items := goods.map gD) rfl ?_
  refine forQ_ind (fun xs env M' => (∃ gs : List (Int × List Int), xs = gs.map gD ∧ ∀ g ∈ gs, g ∈ goods) ∧ ∃ p4 p5, env = [s, h, l, v3, p4, p5, v6, v7, none]) ⟨⟨goods, rfl, fun g h => h⟩, _, _, rfl⟩ ?_ ?_ ?_
  · intros; rfl
  · rintro x xs _ M2 F2 ⟨⟨gs, e, hg⟩, p4, p5, rfl⟩ hF2
    cases gs with
    | nil => cases e
    | cons g gs =>
      cases e
      obtain ⟨i, r⟩ := g
      have gw := good_w (hg _ List.mem_cons_self)
      have hl := (good_all _ (hg _ List.mem_cons_self)).1.2.1
      have h2 := (good_all _ (hg _ List.mem_cons_self)).2.2.1
      simp at hl
      refine ⟨_, rfl, ?_⟩
      simp [gD, endD_i, slD_l, cut1]
      refine compQ_maps r .int (fun k => .tup [.int i, .int k]) (small (by omega)) rfl (fun x hx => ⟨_, rfl, fun P hP => by simpa using hP, fun P hP => ?_⟩) ?_
      · simp
        exact hP
      have e : r.map (fun k => D.tup [.int i, .int k]) = (star (i, r)).map prD := by simp [star, prD]
      rw [e]
      refine ref_no (a := .lst ((i :: r).map .int)) rfl (fl_ints (by simp; omega)) rfl (fx_prs (by simp [star]; omega)) gw ?_
      simp
      exact hF2 _ _ ⟨⟨gs, rfl, fun g h => hg g (List.mem_cons_of_mem _ h)⟩, _, _, rfl⟩
  · rintro _ M2 ⟨_, p4, p5, rfl⟩
    refine ref_no (E := fun x M' => (fnK c Q E).ex x [s, h, l, v3, p4, p5, v6, v7, none] M') (a := .lst (([0, 1] : List Int).map .int)) rfl (fl_ints (by simp)) rfl (fx_prs (ls := [(0, 1)]) (by simp)) ⟨_, rfl, ?_, [(0, 1)], rfl, ?_⟩ ?_
    · unfold HandsOk; decide
    · unfold LinesOk; decide
    simp
    refine ref_yes (bp_line (hs := [0, 1]) (x := .tup [.int 0, .bl true]) ?_ ⟨by simp, fun x hx => ?_⟩ (by simp) fun ⟨p, e, _⟩ => by simp [prD] at e) (rt_self (hQ _))
    · unfold HandsOk; decide
    · simp at hx; subst hx; exact ⟨rfl, by simp [flatX, flatD]⟩
theorem w_law {T : Tab} [hT : LawT T] : ∀ ds M Q E, spScript ds M Q E → wSs T b_law (fnK c Q E) (env0 N_law.length ds) M := by
  rintro _ M Q E ⟨t, ns, rfl, hl, hQ⟩
  show wSs T (lwA ++ (lwB ++ lwC)) _ _ _
  rw [wSs_app]
  refine law_a fun hs ls M1 ho lo => ?_
  change wSs T (lwB ++ lwC) (fnK c Q E) _ M1
  rw [wSs_app]
  refine law_b ho lo hl fun v3 v6 v7 M2 => ?_
  exact law_c hQ
end L3.K02

set_option maxRecDepth 100000
set_option maxHeartbeats 4000000
namespace L3.K02
open PySem L2 PyProof.Rows K01
def T0 : Tab := { gl := [(.«MOST_HANDS», .int 12), (.«MOST_NUMBER», .int 99)], sub := [(.«NoWeb», [.«NoWeb», .«BeatlessError»]), (.«NoHand», [.«NoHand», .«BeatlessError»]), (.«NoLine», [.«NoLine», .«BeatlessError»]), (.«NoWay», [.«NoWay», .«BeatlessError»]), (.«NoProgram», [.«NoProgram», .«BeatlessError»]), (.«BeatlessError», [.«BeatlessError»])], fl := [(.«Web», [.«own_hands», .«own_lines», .«sides»])], xc := [(.«NoWeb», [])], isn := [], own := [.«NoHand», .«NoLine», .«NoWay», .«NoProgram», .«BeatlessError»] }
theorem all_mk {l : PySem.W.OpenLaw} {w : World} {K : PySem.W.Frag} {h : Heap} {mg : PySem.Str → Option Value} {fa C0 C1 C2 C3 C4 C5 C6 f0 f1 f2 f3 f4 f5 f6 f7 f8 f9 f10 : Addr} (X : K.In h) (G : h.Ns mainGlobals mg) (hfa : mg "law" = some (.ref fa))
    {tk_MOST_HANDS tk_MOST_NUMBER : PySem.Tok} {od0 an0 od1 an1 od2 an2 od3 an3 od4 an4 od5 an5 od6 an6 od7 an7 od8 an8 od9 an9 od10 an10 : Option Addr} {sl0 sl1 sl2 sl3 sl4 sl5 sl6 sl7 sl8 sl9 sl10 : Array (Option Value)} {oc0 kV0 dc0 pm0 cd0 ct0 oc1 kV1 dc1 pm1 cd1 ct1 oc2 kV2 dc2 pm2 cd2 ct2 oc3 kV3 dc3 pm3 cd3 ct3 oc4 kV4 dc4 pm4 cd4 ct4 oc5 kV5 dc5 pm5 cd5 ct5 oc6 kV6 dc6 pm6 cd6 ct6 oc7 kV7 dc7 pm7 cd7 ct7 oc8 kV8 dc8 pm8 cd8 ct8 oc9 kV9 dc9 pm9 cd9 ct9 oc10 kV10 dc10 pm10 cd10 ct10 : Value}
    (g_C0 : PySem.W.nsIn K mainGlobals "NoWeb" = some (some (.ref C0)))
    (g_C1 : PySem.W.nsIn K mainGlobals "NoHand" = some (some (.ref C1)))
    (g_C2 : PySem.W.nsIn K mainGlobals "NoLine" = some (some (.ref C2)))
    (g_C3 : PySem.W.nsIn K mainGlobals "NoWay" = some (some (.ref C3)))
    (g_C4 : PySem.W.nsIn K mainGlobals "NoProgram" = some (some (.ref C4)))
    (g_C5 : PySem.W.nsIn K mainGlobals "BeatlessError" = some (some (.ref C5)))
    (g_C6 : PySem.W.nsIn K mainGlobals "Web" = some (some (.ref C6)))
    (i_C0 : PySem.W.isClsIn K C0 = true)
    (t_C0 : PySem.W.typeIn K (.ref C0) = some (.type "type"))
    (s_C0_bool : PySem.W.subIn K (.ref C0) (.type "bool") = some false)
    (s_C0_int : PySem.W.subIn K (.ref C0) (.type "int") = some false)
    (s_C0_str : PySem.W.subIn K (.ref C0) (.type "str") = some false)
    (s_C0_list : PySem.W.subIn K (.ref C0) (.type "list") = some false)
    (s_C0_tuple : PySem.W.subIn K (.ref C0) (.type "tuple") = some false)
    (s_C0_dict : PySem.W.subIn K (.ref C0) (.type "dict") = some false)
    (s_C0_ValueError : PySem.W.subIn K (.ref C0) (.type "ValueError") = some true)
    (s_C0_BaseException : PySem.W.subIn K (.ref C0) (.type "BaseException") = some true)
    (ha_C0 : PySem.W.findIn K (.ref C0) "__class__" = some (some (.builtin "object.__class__")))
    (hm_C0 : PySem.W.mroIn K C0 (.type "object") = some true)
    (x_C0_C0 : PySem.W.subIn K (.ref C0) (.ref C0) = some true)
    (x_C0_C1 : PySem.W.subIn K (.ref C0) (.ref C1) = some false)
    (x_C0_C2 : PySem.W.subIn K (.ref C0) (.ref C2) = some false)
    (x_C0_C3 : PySem.W.subIn K (.ref C0) (.ref C3) = some false)
    (x_C0_C4 : PySem.W.subIn K (.ref C0) (.ref C4) = some false)
    (x_C0_C5 : PySem.W.subIn K (.ref C0) (.ref C5) = some true)
    (i_C1 : PySem.W.isClsIn K C1 = true)
    (t_C1 : PySem.W.typeIn K (.ref C1) = some (.type "type"))
    (s_C1_bool : PySem.W.subIn K (.ref C1) (.type "bool") = some false)
    (s_C1_int : PySem.W.subIn K (.ref C1) (.type "int") = some false)
    (s_C1_str : PySem.W.subIn K (.ref C1) (.type "str") = some false)
    (s_C1_list : PySem.W.subIn K (.ref C1) (.type "list") = some false)
    (s_C1_tuple : PySem.W.subIn K (.ref C1) (.type "tuple") = some false)
    (s_C1_dict : PySem.W.subIn K (.ref C1) (.type "dict") = some false)
    (s_C1_ValueError : PySem.W.subIn K (.ref C1) (.type "ValueError") = some true)
    (s_C1_BaseException : PySem.W.subIn K (.ref C1) (.type "BaseException") = some true)
    (ha_C1 : PySem.W.findIn K (.ref C1) "__class__" = some (some (.builtin "object.__class__")))
    (hm_C1 : PySem.W.mroIn K C1 (.type "object") = some true)
    (x_C1_C0 : PySem.W.subIn K (.ref C1) (.ref C0) = some false)
    (x_C1_C1 : PySem.W.subIn K (.ref C1) (.ref C1) = some true)
    (x_C1_C2 : PySem.W.subIn K (.ref C1) (.ref C2) = some false)
    (x_C1_C3 : PySem.W.subIn K (.ref C1) (.ref C3) = some false)
    (x_C1_C4 : PySem.W.subIn K (.ref C1) (.ref C4) = some false)
    (x_C1_C5 : PySem.W.subIn K (.ref C1) (.ref C5) = some true)
    (i_C2 : PySem.W.isClsIn K C2 = true)
    (t_C2 : PySem.W.typeIn K (.ref C2) = some (.type "type"))
    (s_C2_bool : PySem.W.subIn K (.ref C2) (.type "bool") = some false)
    (s_C2_int : PySem.W.subIn K (.ref C2) (.type "int") = some false)
    (s_C2_str : PySem.W.subIn K (.ref C2) (.type "str") = some false)
    (s_C2_list : PySem.W.subIn K (.ref C2) (.type "list") = some false)
    (s_C2_tuple : PySem.W.subIn K (.ref C2) (.type "tuple") = some false)
    (s_C2_dict : PySem.W.subIn K (.ref C2) (.type "dict") = some false)
    (s_C2_ValueError : PySem.W.subIn K (.ref C2) (.type "ValueError") = some true)
    (s_C2_BaseException : PySem.W.subIn K (.ref C2) (.type "BaseException") = some true)
    (ha_C2 : PySem.W.findIn K (.ref C2) "__class__" = some (some (.builtin "object.__class__")))
    (hm_C2 : PySem.W.mroIn K C2 (.type "object") = some true)
    (x_C2_C0 : PySem.W.subIn K (.ref C2) (.ref C0) = some false)
    (x_C2_C1 : PySem.W.subIn K (.ref C2) (.ref C1) = some false)
    (x_C2_C2 : PySem.W.subIn K (.ref C2) (.ref C2) = some true)
    (x_C2_C3 : PySem.W.subIn K (.ref C2) (.ref C3) = some false)
    (x_C2_C4 : PySem.W.subIn K (.ref C2) (.ref C4) = some false)
    (x_C2_C5 : PySem.W.subIn K (.ref C2) (.ref C5) = some true)
    (i_C3 : PySem.W.isClsIn K C3 = true)
    (t_C3 : PySem.W.typeIn K (.ref C3) = some (.type "type"))
    (s_C3_bool : PySem.W.subIn K (.ref C3) (.type "bool") = some false)
    (s_C3_int : PySem.W.subIn K (.ref C3) (.type "int") = some false)
    (s_C3_str : PySem.W.subIn K (.ref C3) (.type "str") = some false)
    (s_C3_list : PySem.W.subIn K (.ref C3) (.type "list") = some false)
    (s_C3_tuple : PySem.W.subIn K (.ref C3) (.type "tuple") = some false)
    (s_C3_dict : PySem.W.subIn K (.ref C3) (.type "dict") = some false)
    (s_C3_ValueError : PySem.W.subIn K (.ref C3) (.type "ValueError") = some true)
    (s_C3_BaseException : PySem.W.subIn K (.ref C3) (.type "BaseException") = some true)
    (ha_C3 : PySem.W.findIn K (.ref C3) "__class__" = some (some (.builtin "object.__class__")))
    (hm_C3 : PySem.W.mroIn K C3 (.type "object") = some true)
    (x_C3_C0 : PySem.W.subIn K (.ref C3) (.ref C0) = some false)
    (x_C3_C1 : PySem.W.subIn K (.ref C3) (.ref C1) = some false)
    (x_C3_C2 : PySem.W.subIn K (.ref C3) (.ref C2) = some false)
    (x_C3_C3 : PySem.W.subIn K (.ref C3) (.ref C3) = some true)
    (x_C3_C4 : PySem.W.subIn K (.ref C3) (.ref C4) = some false)
    (x_C3_C5 : PySem.W.subIn K (.ref C3) (.ref C5) = some true)
    (i_C4 : PySem.W.isClsIn K C4 = true)
    (t_C4 : PySem.W.typeIn K (.ref C4) = some (.type "type"))
    (s_C4_bool : PySem.W.subIn K (.ref C4) (.type "bool") = some false)
    (s_C4_int : PySem.W.subIn K (.ref C4) (.type "int") = some false)
    (s_C4_str : PySem.W.subIn K (.ref C4) (.type "str") = some false)
    (s_C4_list : PySem.W.subIn K (.ref C4) (.type "list") = some false)
    (s_C4_tuple : PySem.W.subIn K (.ref C4) (.type "tuple") = some false)
    (s_C4_dict : PySem.W.subIn K (.ref C4) (.type "dict") = some false)
    (s_C4_ValueError : PySem.W.subIn K (.ref C4) (.type "ValueError") = some true)
    (s_C4_BaseException : PySem.W.subIn K (.ref C4) (.type "BaseException") = some true)
    (ha_C4 : PySem.W.findIn K (.ref C4) "__class__" = some (some (.builtin "object.__class__")))
    (hm_C4 : PySem.W.mroIn K C4 (.type "object") = some true)
    (x_C4_C0 : PySem.W.subIn K (.ref C4) (.ref C0) = some false)
    (x_C4_C1 : PySem.W.subIn K (.ref C4) (.ref C1) = some false)
    (x_C4_C2 : PySem.W.subIn K (.ref C4) (.ref C2) = some false)
    (x_C4_C3 : PySem.W.subIn K (.ref C4) (.ref C3) = some false)
    (x_C4_C4 : PySem.W.subIn K (.ref C4) (.ref C4) = some true)
    (x_C4_C5 : PySem.W.subIn K (.ref C4) (.ref C5) = some true)
    (i_C5 : PySem.W.isClsIn K C5 = true)
    (t_C5 : PySem.W.typeIn K (.ref C5) = some (.type "type"))
    (s_C5_bool : PySem.W.subIn K (.ref C5) (.type "bool") = some false)
    (s_C5_int : PySem.W.subIn K (.ref C5) (.type "int") = some false)
    (s_C5_str : PySem.W.subIn K (.ref C5) (.type "str") = some false)
    (s_C5_list : PySem.W.subIn K (.ref C5) (.type "list") = some false)
    (s_C5_tuple : PySem.W.subIn K (.ref C5) (.type "tuple") = some false)
    (s_C5_dict : PySem.W.subIn K (.ref C5) (.type "dict") = some false)
    (s_C5_ValueError : PySem.W.subIn K (.ref C5) (.type "ValueError") = some true)
    (s_C5_BaseException : PySem.W.subIn K (.ref C5) (.type "BaseException") = some true)
    (ha_C5 : PySem.W.findIn K (.ref C5) "__class__" = some (some (.builtin "object.__class__")))
    (hm_C5 : PySem.W.mroIn K C5 (.type "object") = some true)
    (x_C5_C0 : PySem.W.subIn K (.ref C5) (.ref C0) = some false)
    (x_C5_C1 : PySem.W.subIn K (.ref C5) (.ref C1) = some false)
    (x_C5_C2 : PySem.W.subIn K (.ref C5) (.ref C2) = some false)
    (x_C5_C3 : PySem.W.subIn K (.ref C5) (.ref C3) = some false)
    (x_C5_C4 : PySem.W.subIn K (.ref C5) (.ref C4) = some false)
    (x_C5_C5 : PySem.W.subIn K (.ref C5) (.ref C5) = some true)
    (hg_C0 : PySem.W.findIn K (.ref C0) "__getattribute__" = some (some (.builtin "BaseException.__getattribute__")))
    (hk_C0 : PySem.W.findIn K (.ref C0) "__getattr__" = some none)
    (hd_C0 : PySem.W.hasDictIn K C0 = true)
    (hg_C1 : PySem.W.findIn K (.ref C1) "__getattribute__" = some (some (.builtin "BaseException.__getattribute__")))
    (hk_C1 : PySem.W.findIn K (.ref C1) "__getattr__" = some none)
    (hd_C1 : PySem.W.hasDictIn K C1 = true)
    (hg_C2 : PySem.W.findIn K (.ref C2) "__getattribute__" = some (some (.builtin "BaseException.__getattribute__")))
    (hk_C2 : PySem.W.findIn K (.ref C2) "__getattr__" = some none)
    (hd_C2 : PySem.W.hasDictIn K C2 = true)
    (hg_C3 : PySem.W.findIn K (.ref C3) "__getattribute__" = some (some (.builtin "BaseException.__getattribute__")))
    (hk_C3 : PySem.W.findIn K (.ref C3) "__getattr__" = some none)
    (hd_C3 : PySem.W.hasDictIn K C3 = true)
    (hg_C4 : PySem.W.findIn K (.ref C4) "__getattribute__" = some (some (.builtin "BaseException.__getattribute__")))
    (hk_C4 : PySem.W.findIn K (.ref C4) "__getattr__" = some none)
    (hd_C4 : PySem.W.hasDictIn K C4 = true)
    (hg_C5 : PySem.W.findIn K (.ref C5) "__getattribute__" = some (some (.builtin "BaseException.__getattribute__")))
    (hk_C5 : PySem.W.findIn K (.ref C5) "__getattr__" = some none)
    (hd_C5 : PySem.W.hasDictIn K C5 = true)
    (ex_C0 : PySem.W.excIn K C0 vtail "ValueError.__new__" = true)
    (kx_C0 : PySem.W.keepIn K (.ref C0) = true)
    (hn : PySem.W.specialIn K (.builtin "object.__class__") "__get__" = some (some (.builtin "getset_descriptor.__get__")))
    (ht : PySem.W.takesIn K (.builtin "object.__class__") = some true)
    (pg_C6 : PySem.W.plainGet K C6 Str.empty = true)
    (hd_C6 : PySem.W.hasDictIn K C6 = true)
    (po_C6 : PySem.W.plainOver K C6 = true)
    (sa_C6 : PySem.W.findIn K (.ref C6) "__setattr__" = some (some (.builtin "object.__setattr__")))
    (mk_C6 : PySem.W.makesIn K C6 = true)
    (kc_C6 : PySem.W.keepIn K (.ref C6) = true)
    (n_C6_own_hands : PySem.W.findIn K (.ref C6) "own_hands" = some none)
    (n_C6_own_lines : PySem.W.findIn K (.ref C6) "own_lines" = some none)
    (n_C6_sides : PySem.W.findIn K (.ref C6) "sides" = some none)
    (g_MOST_HANDS : PySem.W.nsIn K mainGlobals "MOST_HANDS" = some (some (.int 12 tk_MOST_HANDS)))
    (g_MOST_NUMBER : PySem.W.nsIn K mainGlobals "MOST_NUMBER" = some (some (.int 99 tk_MOST_NUMBER)))
    (z0 : PySem.W.nsIn K mainGlobals "len" = some none)
    (z1 : PySem.W.nsIn K mainGlobals "all" = some none)
    (z2 : PySem.W.nsIn K mainGlobals "any" = some none)
    (z3 : PySem.W.nsIn K mainGlobals "sorted" = some none)
    (z4 : PySem.W.nsIn K mainGlobals "list" = some none)
    (z5 : PySem.W.nsIn K mainGlobals "dict" = some none)
    (z6 : PySem.W.nsIn K mainGlobals "min" = some none)
    (z7 : PySem.W.nsIn K mainGlobals "max" = some none)
    (z8 : PySem.W.nsIn K mainGlobals "int" = some none)
    (z9 : PySem.W.nsIn K mainGlobals "str" = some none)
    (z10 : PySem.W.nsIn K mainGlobals "tuple" = some none)
    (z11 : PySem.W.nsIn K mainGlobals "sum" = some none)
    (z12 : PySem.W.nsIn K mainGlobals "abs" = some none)
    (z13 : PySem.W.nsIn K mainGlobals "isinstance" = some none)
    (z14 : PySem.W.nsIn K mainGlobals "range" = some none)
    (z15 : PySem.W.nsIn K mainGlobals "enumerate" = some none)
    (z16 : PySem.W.nsIn K mainGlobals "zip" = some none)
    (z17 : PySem.W.nsIn K mainGlobals "reversed" = some none)
    (z18 : PySem.W.nsIn K mainGlobals "set" = some none)
    (z19 : PySem.W.nsIn K mainGlobals "bool" = some none)
    (z20 : PySem.W.nsIn K mainGlobals "ValueError" = some none)
    (a_is_whole : PySem.W.nsIn K mainGlobals "is_whole" = some (some (.ref f0)))
    (a_are_hands : PySem.W.nsIn K mainGlobals "are_hands" = some (some (.ref f1)))
    (a_is_line : PySem.W.nsIn K mainGlobals "is_line" = some (some (.ref f2)))
    (a_are_lines : PySem.W.nsIn K mainGlobals "are_lines" = some (some (.ref f3)))
    (a__law_cell_at : PySem.W.nsIn K mainGlobals "_law_cell_at" = some (some (.ref f5)))
    (a__law_digit : PySem.W.nsIn K mainGlobals "_law_digit" = some (some (.ref f6)))
    (a__law_web : PySem.W.nsIn K mainGlobals "_law_web" = some (some (.ref f7)))
    (a__law_bad : PySem.W.nsIn K mainGlobals "_law_bad" = some (some (.ref f8)))
    (a__law_refused : PySem.W.nsIn K mainGlobals "_law_refused" = some (some (.ref f9)))
    (a_law : PySem.W.nsIn K mainGlobals "law" = some (some (.ref f10)))
    (a_Web___init__ : PySem.W.findIn K (.ref C6) "__init__" = some (some (.ref f4)))
    (l0 : K.lookup f0 = some ⟨oc0, od0, .func (PySem.W.fnOf "is_whole" "is_whole" (defArgs s_is_whole) (defBody s_is_whole) (defScope s_is_whole) .none kV0 dc0 pm0 an0 cd0 ct0), sl0⟩)
    (c0 : PySem.W.codeIn K cd0 "is_whole" = true)
    (k0 : PySem.W.keepIn K (.ref f0) = true)
    (l1 : K.lookup f1 = some ⟨oc1, od1, .func (PySem.W.fnOf "are_hands" "are_hands" (defArgs s_are_hands) (defBody s_are_hands) (defScope s_are_hands) .none kV1 dc1 pm1 an1 cd1 ct1), sl1⟩)
    (c1 : PySem.W.codeIn K cd1 "are_hands" = true)
    (k1 : PySem.W.keepIn K (.ref f1) = true)
    (l2 : K.lookup f2 = some ⟨oc2, od2, .func (PySem.W.fnOf "is_line" "is_line" (defArgs s_is_line) (defBody s_is_line) (defScope s_is_line) .none kV2 dc2 pm2 an2 cd2 ct2), sl2⟩)
    (c2 : PySem.W.codeIn K cd2 "is_line" = true)
    (k2 : PySem.W.keepIn K (.ref f2) = true)
    (l3 : K.lookup f3 = some ⟨oc3, od3, .func (PySem.W.fnOf "are_lines" "are_lines" (defArgs s_are_lines) (defBody s_are_lines) (defScope s_are_lines) .none kV3 dc3 pm3 an3 cd3 ct3), sl3⟩)
    (c3 : PySem.W.codeIn K cd3 "are_lines" = true)
    (k3 : PySem.W.keepIn K (.ref f3) = true)
    (l4 : K.lookup f4 = some ⟨oc4, od4, .func (PySem.W.fnOf "__init__" "Web.__init__" (defArgs s_Web___init__) (defBody s_Web___init__) (defScope s_Web___init__) .none kV4 dc4 pm4 an4 cd4 ct4), sl4⟩)
    (c4 : PySem.W.codeIn K cd4 "Web.__init__" = true)
    (k4 : PySem.W.keepIn K (.ref f4) = true)
    (i4 : PySem.W.isFn K (.ref f4) = true)
    (l5 : K.lookup f5 = some ⟨oc5, od5, .func (PySem.W.fnOf "_law_cell_at" "_law_cell_at" (defArgs s__law_cell_at) (defBody s__law_cell_at) (defScope s__law_cell_at) .none kV5 dc5 pm5 an5 cd5 ct5), sl5⟩)
    (c5 : PySem.W.codeIn K cd5 "_law_cell_at" = true)
    (k5 : PySem.W.keepIn K (.ref f5) = true)
    (l6 : K.lookup f6 = some ⟨oc6, od6, .func (PySem.W.fnOf "_law_digit" "_law_digit" (defArgs s__law_digit) (defBody s__law_digit) (defScope s__law_digit) .none kV6 dc6 pm6 an6 cd6 ct6), sl6⟩)
    (c6 : PySem.W.codeIn K cd6 "_law_digit" = true)
    (k6 : PySem.W.keepIn K (.ref f6) = true)
    (l7 : K.lookup f7 = some ⟨oc7, od7, .func (PySem.W.fnOf "_law_web" "_law_web" (defArgs s__law_web) (defBody s__law_web) (defScope s__law_web) .none kV7 dc7 pm7 an7 cd7 ct7), sl7⟩)
    (c7 : PySem.W.codeIn K cd7 "_law_web" = true)
    (k7 : PySem.W.keepIn K (.ref f7) = true)
    (l8 : K.lookup f8 = some ⟨oc8, od8, .func (PySem.W.fnOf "_law_bad" "_law_bad" (defArgs s__law_bad) (defBody s__law_bad) (defScope s__law_bad) .none kV8 dc8 pm8 an8 cd8 ct8), sl8⟩)
    (c8 : PySem.W.codeIn K cd8 "_law_bad" = true)
    (k8 : PySem.W.keepIn K (.ref f8) = true)
    (l9 : K.lookup f9 = some ⟨oc9, od9, .func (PySem.W.fnOf "_law_refused" "_law_refused" (defArgs s__law_refused) (defBody s__law_refused) (defScope s__law_refused) .none kV9 dc9 pm9 an9 cd9 ct9), sl9⟩)
    (c9 : PySem.W.codeIn K cd9 "_law_refused" = true)
    (k9 : PySem.W.keepIn K (.ref f9) = true)
    (l10 : K.lookup f10 = some ⟨oc10, od10, .func (PySem.W.fnOf "law" "law" (defArgs s_law) (defBody s_law) (defScope s_law) .none kV10 dc10 pm10 an10 cd10 ct10), sl10⟩)
    (c10 : PySem.W.codeIn K cd10 "law" = true)
    (k10 : PySem.W.keepIn K (.ref f10) = true) :
    ∃ fd : FuncData, (∀ (s : Shared) (v : Value), BindsTo s fd ⟨[v], []⟩ [("_law_script", v)]) ∧ ∀ base : Heap, K.In base → base.Ns mainGlobals mg → FnOk l.prog w K mg base (L2.CX l.prog w) 8 fa fd ["_law_script"] (spEnd K) := by
  have e := hfa.symm.trans (PySem.W.mg_of X G a_law)
  cases e
  let c : Cfg := (mkC K [(.«NoWeb», C0), (.«NoHand», C1), (.«NoLine», C2), (.«NoWay», C3), (.«NoProgram», C4), (.«BeatlessError», C5)] [(.«Web», C6)] T0.fl)
  have X_C0 : XCls K C0 := ⟨i_C0, t_C0, ⟨hg_C0, hk_C0, s_C0_BaseException, hd_C0, ha_C0, hn, ht, hm_C0⟩, bt_all s_C0_bool s_C0_int s_C0_str s_C0_list s_C0_tuple s_C0_dict s_C0_ValueError⟩
  have X_C1 : XCls K C1 := ⟨i_C1, t_C1, ⟨hg_C1, hk_C1, s_C1_BaseException, hd_C1, ha_C1, hn, ht, hm_C1⟩, bt_all s_C1_bool s_C1_int s_C1_str s_C1_list s_C1_tuple s_C1_dict s_C1_ValueError⟩
  have X_C2 : XCls K C2 := ⟨i_C2, t_C2, ⟨hg_C2, hk_C2, s_C2_BaseException, hd_C2, ha_C2, hn, ht, hm_C2⟩, bt_all s_C2_bool s_C2_int s_C2_str s_C2_list s_C2_tuple s_C2_dict s_C2_ValueError⟩
  have X_C3 : XCls K C3 := ⟨i_C3, t_C3, ⟨hg_C3, hk_C3, s_C3_BaseException, hd_C3, ha_C3, hn, ht, hm_C3⟩, bt_all s_C3_bool s_C3_int s_C3_str s_C3_list s_C3_tuple s_C3_dict s_C3_ValueError⟩
  have X_C4 : XCls K C4 := ⟨i_C4, t_C4, ⟨hg_C4, hk_C4, s_C4_BaseException, hd_C4, ha_C4, hn, ht, hm_C4⟩, bt_all s_C4_bool s_C4_int s_C4_str s_C4_list s_C4_tuple s_C4_dict s_C4_ValueError⟩
  have X_C5 : XCls K C5 := ⟨i_C5, t_C5, ⟨hg_C5, hk_C5, s_C5_BaseException, hd_C5, ha_C5, hn, ht, hm_C5⟩, bt_all s_C5_bool s_C5_int s_C5_str s_C5_list s_C5_tuple s_C5_dict s_C5_ValueError⟩
  have Y_C6 : Cls K C6 := ⟨pg_C6, hd_C6, po_C6, sa_C6⟩
  have W0 : Wok K mg c T0 := by
    refine wok_of2 (fun n hn => ?_) (fun n d h => ?_) (List.forall_mem_cons.mpr ⟨⟨PySem.W.mg_of X G g_C0, .inl ⟨X_C0, rfl⟩⟩, (List.forall_mem_cons.mpr ⟨⟨PySem.W.mg_of X G g_C1, .inl ⟨X_C1, rfl⟩⟩, (List.forall_mem_cons.mpr ⟨⟨PySem.W.mg_of X G g_C2, .inl ⟨X_C2, rfl⟩⟩, (List.forall_mem_cons.mpr ⟨⟨PySem.W.mg_of X G g_C3, .inl ⟨X_C3, rfl⟩⟩, (List.forall_mem_cons.mpr ⟨⟨PySem.W.mg_of X G g_C4, .inl ⟨X_C4, rfl⟩⟩, (List.forall_mem_cons.mpr ⟨⟨PySem.W.mg_of X G g_C5, .inl ⟨X_C5, rfl⟩⟩, (fun _ h => nomatch h)⟩)⟩)⟩)⟩)⟩)⟩) (List.forall_mem_cons.mpr ⟨(fun l h => by have e : l = [.«NoWeb», .«BeatlessError»] := (by rcases h with h | h <;> first | (exact (Option.some.inj h).symm) | cases h); subst e; exact (List.forall_mem_cons.mpr ⟨⟨x_C0_C0, fun _ => (by decide : Nm.«NoWeb» ∈ ([.«NoWeb», .«BeatlessError»] : List Nm))⟩, (List.forall_mem_cons.mpr ⟨⟨x_C0_C1, fun e => by have z := x_C0_C1; rw [show C0 = C1 from e, x_C1_C1] at z; cases z⟩, (List.forall_mem_cons.mpr ⟨⟨x_C0_C2, fun e => by have z := x_C0_C2; rw [show C0 = C2 from e, x_C2_C2] at z; cases z⟩, (List.forall_mem_cons.mpr ⟨⟨x_C0_C3, fun e => by have z := x_C0_C3; rw [show C0 = C3 from e, x_C3_C3] at z; cases z⟩, (List.forall_mem_cons.mpr ⟨⟨x_C0_C4, fun e => by have z := x_C0_C4; rw [show C0 = C4 from e, x_C4_C4] at z; cases z⟩, (List.forall_mem_cons.mpr ⟨⟨x_C0_C5, fun _ => (by decide : Nm.«BeatlessError» ∈ ([.«NoWeb», .«BeatlessError»] : List Nm))⟩, (fun _ h => nomatch h)⟩)⟩)⟩)⟩)⟩)⟩)), (List.forall_mem_cons.mpr ⟨(fun l h => by have e : l = [.«NoHand», .«BeatlessError»] := (by rcases h with h | h <;> first | (exact (Option.some.inj h).symm) | cases h); subst e; exact (List.forall_mem_cons.mpr ⟨⟨x_C1_C0, fun e => by have z := x_C1_C0; rw [show C1 = C0 from e, x_C0_C0] at z; cases z⟩, (List.forall_mem_cons.mpr ⟨⟨x_C1_C1, fun _ => (by decide : Nm.«NoHand» ∈ ([.«NoHand», .«BeatlessError»] : List Nm))⟩, (List.forall_mem_cons.mpr ⟨⟨x_C1_C2, fun e => by have z := x_C1_C2; rw [show C1 = C2 from e, x_C2_C2] at z; cases z⟩, (List.forall_mem_cons.mpr ⟨⟨x_C1_C3, fun e => by have z := x_C1_C3; rw [show C1 = C3 from e, x_C3_C3] at z; cases z⟩, (List.forall_mem_cons.mpr ⟨⟨x_C1_C4, fun e => by have z := x_C1_C4; rw [show C1 = C4 from e, x_C4_C4] at z; cases z⟩, (List.forall_mem_cons.mpr ⟨⟨x_C1_C5, fun _ => (by decide : Nm.«BeatlessError» ∈ ([.«NoHand», .«BeatlessError»] : List Nm))⟩, (fun _ h => nomatch h)⟩)⟩)⟩)⟩)⟩)⟩)), (List.forall_mem_cons.mpr ⟨(fun l h => by have e : l = [.«NoLine», .«BeatlessError»] := (by rcases h with h | h <;> first | (exact (Option.some.inj h).symm) | cases h); subst e; exact (List.forall_mem_cons.mpr ⟨⟨x_C2_C0, fun e => by have z := x_C2_C0; rw [show C2 = C0 from e, x_C0_C0] at z; cases z⟩, (List.forall_mem_cons.mpr ⟨⟨x_C2_C1, fun e => by have z := x_C2_C1; rw [show C2 = C1 from e, x_C1_C1] at z; cases z⟩, (List.forall_mem_cons.mpr ⟨⟨x_C2_C2, fun _ => (by decide : Nm.«NoLine» ∈ ([.«NoLine», .«BeatlessError»] : List Nm))⟩, (List.forall_mem_cons.mpr ⟨⟨x_C2_C3, fun e => by have z := x_C2_C3; rw [show C2 = C3 from e, x_C3_C3] at z; cases z⟩, (List.forall_mem_cons.mpr ⟨⟨x_C2_C4, fun e => by have z := x_C2_C4; rw [show C2 = C4 from e, x_C4_C4] at z; cases z⟩, (List.forall_mem_cons.mpr ⟨⟨x_C2_C5, fun _ => (by decide : Nm.«BeatlessError» ∈ ([.«NoLine», .«BeatlessError»] : List Nm))⟩, (fun _ h => nomatch h)⟩)⟩)⟩)⟩)⟩)⟩)), (List.forall_mem_cons.mpr ⟨(fun l h => by have e : l = [.«NoWay», .«BeatlessError»] := (by rcases h with h | h <;> first | (exact (Option.some.inj h).symm) | cases h); subst e; exact (List.forall_mem_cons.mpr ⟨⟨x_C3_C0, fun e => by have z := x_C3_C0; rw [show C3 = C0 from e, x_C0_C0] at z; cases z⟩, (List.forall_mem_cons.mpr ⟨⟨x_C3_C1, fun e => by have z := x_C3_C1; rw [show C3 = C1 from e, x_C1_C1] at z; cases z⟩, (List.forall_mem_cons.mpr ⟨⟨x_C3_C2, fun e => by have z := x_C3_C2; rw [show C3 = C2 from e, x_C2_C2] at z; cases z⟩, (List.forall_mem_cons.mpr ⟨⟨x_C3_C3, fun _ => (by decide : Nm.«NoWay» ∈ ([.«NoWay», .«BeatlessError»] : List Nm))⟩, (List.forall_mem_cons.mpr ⟨⟨x_C3_C4, fun e => by have z := x_C3_C4; rw [show C3 = C4 from e, x_C4_C4] at z; cases z⟩, (List.forall_mem_cons.mpr ⟨⟨x_C3_C5, fun _ => (by decide : Nm.«BeatlessError» ∈ ([.«NoWay», .«BeatlessError»] : List Nm))⟩, (fun _ h => nomatch h)⟩)⟩)⟩)⟩)⟩)⟩)), (List.forall_mem_cons.mpr ⟨(fun l h => by have e : l = [.«NoProgram», .«BeatlessError»] := (by rcases h with h | h <;> first | (exact (Option.some.inj h).symm) | cases h); subst e; exact (List.forall_mem_cons.mpr ⟨⟨x_C4_C0, fun e => by have z := x_C4_C0; rw [show C4 = C0 from e, x_C0_C0] at z; cases z⟩, (List.forall_mem_cons.mpr ⟨⟨x_C4_C1, fun e => by have z := x_C4_C1; rw [show C4 = C1 from e, x_C1_C1] at z; cases z⟩, (List.forall_mem_cons.mpr ⟨⟨x_C4_C2, fun e => by have z := x_C4_C2; rw [show C4 = C2 from e, x_C2_C2] at z; cases z⟩, (List.forall_mem_cons.mpr ⟨⟨x_C4_C3, fun e => by have z := x_C4_C3; rw [show C4 = C3 from e, x_C3_C3] at z; cases z⟩, (List.forall_mem_cons.mpr ⟨⟨x_C4_C4, fun _ => (by decide : Nm.«NoProgram» ∈ ([.«NoProgram», .«BeatlessError»] : List Nm))⟩, (List.forall_mem_cons.mpr ⟨⟨x_C4_C5, fun _ => (by decide : Nm.«BeatlessError» ∈ ([.«NoProgram», .«BeatlessError»] : List Nm))⟩, (fun _ h => nomatch h)⟩)⟩)⟩)⟩)⟩)⟩)), (List.forall_mem_cons.mpr ⟨(fun l h => by have e : l = [.«BeatlessError»] := (by rcases h with h | h <;> first | (exact (Option.some.inj h).symm) | cases h); subst e; exact (List.forall_mem_cons.mpr ⟨⟨x_C5_C0, fun e => by have z := x_C5_C0; rw [show C5 = C0 from e, x_C0_C0] at z; cases z⟩, (List.forall_mem_cons.mpr ⟨⟨x_C5_C1, fun e => by have z := x_C5_C1; rw [show C5 = C1 from e, x_C1_C1] at z; cases z⟩, (List.forall_mem_cons.mpr ⟨⟨x_C5_C2, fun e => by have z := x_C5_C2; rw [show C5 = C2 from e, x_C2_C2] at z; cases z⟩, (List.forall_mem_cons.mpr ⟨⟨x_C5_C3, fun e => by have z := x_C5_C3; rw [show C5 = C3 from e, x_C3_C3] at z; cases z⟩, (List.forall_mem_cons.mpr ⟨⟨x_C5_C4, fun e => by have z := x_C5_C4; rw [show C5 = C4 from e, x_C4_C4] at z; cases z⟩, (List.forall_mem_cons.mpr ⟨⟨x_C5_C5, fun _ => (by decide : Nm.«BeatlessError» ∈ ([.«BeatlessError»] : List Nm))⟩, (fun _ h => nomatch h)⟩)⟩)⟩)⟩)⟩)⟩)), (fun _ h => nomatch h)⟩)⟩)⟩)⟩)⟩)⟩) (List.forall_mem_cons.mpr ⟨(fun h => nomatch h), (List.forall_mem_cons.mpr ⟨(fun h => nomatch h), (List.forall_mem_cons.mpr ⟨(fun h => nomatch h), (List.forall_mem_cons.mpr ⟨(fun h => nomatch h), (List.forall_mem_cons.mpr ⟨(fun h => nomatch h), (List.forall_mem_cons.mpr ⟨(fun h => nomatch h), (fun _ h => nomatch h)⟩)⟩)⟩)⟩)⟩)⟩) (fun n l h => ?_) (fun n h => ?_) (List.forall_mem_cons.mpr ⟨⟨Y_C6, by show (([.«own_hands», .«own_lines», .«sides»] : List Nm).map Nm.s).Nodup; decide +kernel, (List.forall_mem_cons.mpr ⟨n_C6_own_hands, (List.forall_mem_cons.mpr ⟨n_C6_own_lines, (List.forall_mem_cons.mpr ⟨n_C6_sides, (fun _ h => nomatch h)⟩)⟩)⟩)⟩, (fun _ h => nomatch h)⟩) (fun n C h h2 => ?_) (fun n fs h => ?_)
    · exact (show ∀ n ∈ bnames, mg n = none from (List.forall_mem_cons.mpr ⟨PySem.W.mg_none_of X G z0, (List.forall_mem_cons.mpr ⟨PySem.W.mg_none_of X G z1, (List.forall_mem_cons.mpr ⟨PySem.W.mg_none_of X G z2, (List.forall_mem_cons.mpr ⟨PySem.W.mg_none_of X G z3, (List.forall_mem_cons.mpr ⟨PySem.W.mg_none_of X G z4, (List.forall_mem_cons.mpr ⟨PySem.W.mg_none_of X G z5, (List.forall_mem_cons.mpr ⟨PySem.W.mg_none_of X G z6, (List.forall_mem_cons.mpr ⟨PySem.W.mg_none_of X G z7, (List.forall_mem_cons.mpr ⟨PySem.W.mg_none_of X G z8, (List.forall_mem_cons.mpr ⟨PySem.W.mg_none_of X G z9, (List.forall_mem_cons.mpr ⟨PySem.W.mg_none_of X G z10, (List.forall_mem_cons.mpr ⟨PySem.W.mg_none_of X G z11, (List.forall_mem_cons.mpr ⟨PySem.W.mg_none_of X G z12, (List.forall_mem_cons.mpr ⟨PySem.W.mg_none_of X G z13, (List.forall_mem_cons.mpr ⟨PySem.W.mg_none_of X G z14, (List.forall_mem_cons.mpr ⟨PySem.W.mg_none_of X G z15, (List.forall_mem_cons.mpr ⟨PySem.W.mg_none_of X G z16, (List.forall_mem_cons.mpr ⟨PySem.W.mg_none_of X G z17, (List.forall_mem_cons.mpr ⟨PySem.W.mg_none_of X G z18, (List.forall_mem_cons.mpr ⟨PySem.W.mg_none_of X G z19, (List.forall_mem_cons.mpr ⟨PySem.W.mg_none_of X G z20, (fun _ h => nomatch h)⟩)⟩)⟩)⟩)⟩)⟩)⟩)⟩)⟩)⟩)⟩)⟩)⟩)⟩)⟩)⟩)⟩)⟩)⟩)⟩)⟩)) n hn
    · have := lkm h
      simp only [T0, List.mem_cons, List.not_mem_nil, or_false, Prod.mk.injEq] at this
      rcases this with ⟨rfl, rfl⟩ | ⟨rfl, rfl⟩
      · exact ⟨_, .int 12, PySem.W.mg_of X G g_MOST_HANDS, ⟨tk_MOST_HANDS, rfl⟩, fun _ _ _ => .int _⟩
      · exact ⟨_, .int 99, PySem.W.mg_of X G g_MOST_NUMBER, ⟨tk_MOST_NUMBER, rfl⟩, fun _ _ _ => .int _⟩
    · have := lkm h
      simp only [T0, List.mem_cons, List.not_mem_nil, or_false, Prod.mk.injEq] at this
      rcases this with ⟨rfl, rfl⟩ | ⟨rfl, rfl⟩ | ⟨rfl, rfl⟩ | ⟨rfl, rfl⟩ | ⟨rfl, rfl⟩ | ⟨rfl, rfl⟩
      · rfl
      · rfl
      · rfl
      · rfl
      · rfl
      · rfl
    · simp only [T0, List.mem_cons, List.not_mem_nil, or_false] at h
      rcases h with rfl | rfl | rfl | rfl | rfl <;> rfl
    · have := lkm h
      simp only [List.mem_cons, List.mem_cons, List.not_mem_nil, or_false, Prod.mk.injEq] at this
      rcases this with ⟨rfl, rfl⟩
      · first | rfl | cases h2
    · have := lkm h
      simp only [T0, List.mem_cons, List.not_mem_nil, or_false, Prod.mk.injEq] at this
      rcases this with ⟨rfl, rfl⟩
      · exact ⟨rfl, C0, rfl, X_C0, ex_C0, kx_C0⟩
  have F0 := fun_mk (st := s_is_whole) l0 c0 k0
  have b0 := F0.binds (ps := P_is_whole) fun _ _ _ _ _ _ us hl => match us, hl with | [_], _ => rfl
  have F1 := fun_mk (st := s_are_hands) l1 c1 k1
  have b1 := F1.binds (ps := P_are_hands) fun _ _ _ _ _ _ us hl => match us, hl with | [_], _ => rfl
  have F2 := fun_mk (st := s_is_line) l2 c2 k2
  have b2 := F2.binds (ps := P_is_line) fun _ _ _ _ _ _ us hl => match us, hl with | [_, _], _ => rfl
  have F3 := fun_mk (st := s_are_lines) l3 c3 k3
  have b3 := F3.binds (ps := P_are_lines) fun _ _ _ _ _ _ us hl => match us, hl with | [_, _], _ => rfl
  have F4 := fun_mk (st := s_Web___init__) l4 c4 k4
  have b4 := F4.binds (ps := P_Web___init__) fun _ _ _ _ _ _ us hl => match us, hl with | [_, _, _], _ => rfl
  have F5 := fun_mk (st := s__law_cell_at) l5 c5 k5
  have b5 := F5.binds (ps := P__law_cell_at) fun _ _ _ _ _ _ us hl => match us, hl with | [_, _], _ => rfl
  have F6 := fun_mk (st := s__law_digit) l6 c6 k6
  have b6 := F6.binds (ps := P__law_digit) fun _ _ _ _ _ _ us hl => match us, hl with | [_, _], _ => rfl
  have F7 := fun_mk (st := s__law_web) l7 c7 k7
  have b7 := F7.binds (ps := P__law_web) fun _ _ _ _ _ _ us hl => match us, hl with | [_], _ => rfl
  have F8 := fun_mk (st := s__law_bad) l8 c8 k8
  have b8 := F8.binds (ps := P__law_bad) fun _ _ _ _ _ _ us hl => match us, hl with | [_, _, _], _ => rfl
  have F9 := fun_mk (st := s__law_refused) l9 c9 k9
  have b9 := F9.binds (ps := P__law_refused) fun _ _ _ _ _ _ us hl => match us, hl with | [_, _], _ => rfl
  have F10 := fun_mk (st := s_law) l10 c10 k10
  have b10 := F10.binds (ps := P_law) fun _ _ _ _ _ _ us hl => match us, hl with | [_], _ => rfl
  refine ⟨PySem.W.fnOf "law" "law" (defArgs s_law) (defBody s_law) (defScope s_law) .none kV10 dc10 pm10 an10 cd10 ct10, fun s v => .of_eq rfl, fun base _ _ => ?_⟩
  have K0 : Tok l.prog w K mg base c { T0 with fn := [], mt := [], cl := [] } 1 := tok_of (k := 0) (fun _ h => nomatch h) (fun _ h => nomatch h) (fun _ h => nomatch h)
  have G_is_whole : FnOk l.prog w K mg base (L2.CX l.prog w) 2 f0 (PySem.W.fnOf "is_whole" "is_whole" (defArgs s_is_whole) (defBody s_is_whole) (defScope s_is_whole) .none kV0 dc0 pm0 an0 cd0 ct0) P_is_whole (toSp c spWhole) := (fn_l3 (W0.tab _ _ _) F0 sc_is_whole m_is_whole k_is_whole K0 (by rintro _ M Q E ⟨_, rfl, _⟩; rfl) (fun ds M Q E h => ⟨_, fnK_ok, w_whole ds M Q E h⟩))
  have K1 : Tok l.prog w K mg base c { T0 with fn := [(.«is_whole», spWhole)], mt := [], cl := [] } 2 := tok_of (k := 1) (List.forall_mem_cons.mpr ⟨FnG.of G_is_whole F0 (PySem.W.mg_of X G a_is_whole) b0 (by omega), (fun _ h => nomatch h)⟩) (fun _ h => nomatch h) (fun _ h => nomatch h)
  have G_are_hands : FnOk l.prog w K mg base (L2.CX l.prog w) 3 f1 (PySem.W.fnOf "are_hands" "are_hands" (defArgs s_are_hands) (defBody s_are_hands) (defScope s_are_hands) .none kV1 dc1 pm1 an1 cd1 ct1) P_are_hands (toSp c spHandsG) := (fn_l3 (W0.tab _ _ _) F1 sc_are_hands m_are_hands k_are_hands K1 (by rintro _ M Q E ⟨_, rfl, _⟩; rfl) (fun ds M Q E h => ⟨_, fnK_ok, (@w_handsG c _ (by exact ⟨rfl, rfl, rfl⟩)) ds M Q E h⟩))
  have K2 : Tok l.prog w K mg base c { T0 with fn := [(.«is_whole», spWhole)], mt := [], cl := [] } 2 := tok_of (k := 1) (List.forall_mem_cons.mpr ⟨FnG.of G_is_whole F0 (PySem.W.mg_of X G a_is_whole) b0 (by omega), (fun _ h => nomatch h)⟩) (fun _ h => nomatch h) (fun _ h => nomatch h)
  have G_is_line : FnOk l.prog w K mg base (L2.CX l.prog w) 3 f2 (PySem.W.fnOf "is_line" "is_line" (defArgs s_is_line) (defBody s_is_line) (defScope s_is_line) .none kV2 dc2 pm2 an2 cd2 ct2) P_is_line (toSp c spLineG) := (fn_l3 (W0.tab _ _ _) F2 sc_is_line m_is_line k_is_line K2 (by rintro _ M Q E ⟨_, _, _, rfl, _⟩; rfl) (fun ds M Q E h => ⟨_, fnK_ok, (@w_lineG c _ (by exact ⟨rfl⟩)) ds M Q E h⟩))
  have K3 : Tok l.prog w K mg base c { T0 with fn := [(.«is_line», spLineG)], mt := [], cl := [] } 3 := tok_of (k := 2) (List.forall_mem_cons.mpr ⟨FnG.of G_is_line F2 (PySem.W.mg_of X G a_is_line) b2 (by omega), (fun _ h => nomatch h)⟩) (fun _ h => nomatch h) (fun _ h => nomatch h)
  have G_are_lines : FnOk l.prog w K mg base (L2.CX l.prog w) 4 f3 (PySem.W.fnOf "are_lines" "are_lines" (defArgs s_are_lines) (defBody s_are_lines) (defScope s_are_lines) .none kV3 dc3 pm3 an3 cd3 ct3) P_are_lines (toSp c spLinesG) := (fn_l3 (W0.tab _ _ _) F3 sc_are_lines m_are_lines k_are_lines K3 (by rintro _ M Q E ⟨_, _, _, rfl, _⟩; rfl) (fun ds M Q E h => ⟨_, fnK_ok, (@w_linesG c _ (by exact ⟨rfl⟩)) ds M Q E h⟩))
  have K4 : Tok l.prog w K mg base c { T0 with fn := [(.«are_hands», spHandsG), (.«are_lines», spLinesG)], mt := [], cl := [] } 4 := tok_of (k := 3) (List.forall_mem_cons.mpr ⟨FnG.of G_are_hands F1 (PySem.W.mg_of X G a_are_hands) b1 (by omega), (List.forall_mem_cons.mpr ⟨FnG.of G_are_lines F3 (PySem.W.mg_of X G a_are_lines) b3 (by omega), (fun _ h => nomatch h)⟩)⟩) (fun _ h => nomatch h) (fun _ h => nomatch h)
  have G_Web___init__ : FnOk l.prog w K mg base (L2.CX l.prog w) 5 f4 (PySem.W.fnOf "__init__" "Web.__init__" (defArgs s_Web___init__) (defBody s_Web___init__) (defScope s_Web___init__) .none kV4 dc4 pm4 an4 cd4 ct4) P_Web___init__ (toSp c (mkI .«Web» c spWebG)) := (fn_l3 (W0.tab _ _ _) F4 sc_Web___init__ m_Web___init__ k_Web___init__ K4 (by rintro _ M Q E ⟨x, ds, M0, Q0, rfl, _, _, ⟨_, _, rfl, _⟩, _⟩; rfl) (by rintro _ _ Q E ⟨x, ds, M0, Q0, rfl, hx, rfl, h, hq⟩; exact ⟨_, mkK_ok (n := .«Web») (sp := spWebG) (ds' := []) (M' := M0) hq, (@w_initG c _ (by exact ⟨rfl, rfl, rfl, rfl⟩)) x ds M0 Q0 E h hx⟩))
  have K5 : Tok l.prog w K mg base c { T0 with fn := [], mt := [], cl := [] } 1 := tok_of (k := 0) (fun _ h => nomatch h) (fun _ h => nomatch h) (fun _ h => nomatch h)
  have G__law_cell_at : FnOk l.prog w K mg base (L2.CX l.prog w) 2 f5 (PySem.W.fnOf "_law_cell_at" "_law_cell_at" (defArgs s__law_cell_at) (defBody s__law_cell_at) (defScope s__law_cell_at) .none kV5 dc5 pm5 an5 cd5 ct5) P__law_cell_at (toSp c K01.spCell) := (fn_l3 (W0.tab _ _ _) F5 sc__law_cell_at m__law_cell_at k__law_cell_at K5 (by rintro _ M Q E ⟨_, _, _, rfl, _⟩; rfl) (fun ds M Q E h => ⟨_, fnK_ok, w_cell ds M Q E h⟩))
  have K6 : Tok l.prog w K mg base c { T0 with fn := [], mt := [], cl := [] } 1 := tok_of (k := 0) (fun _ h => nomatch h) (fun _ h => nomatch h) (fun _ h => nomatch h)
  have G__law_digit : FnOk l.prog w K mg base (L2.CX l.prog w) 2 f6 (PySem.W.fnOf "_law_digit" "_law_digit" (defArgs s__law_digit) (defBody s__law_digit) (defScope s__law_digit) .none kV6 dc6 pm6 an6 cd6 ct6) P__law_digit (toSp c spDigit) := (fn_l3 (W0.tab _ _ _) F6 sc__law_digit m__law_digit k__law_digit K6 (by rintro _ M Q E ⟨_, _, _, rfl, _⟩; rfl) (fun ds M Q E h => ⟨_, fnK_ok, w_digit ds M Q E h⟩))
  have K7 : Tok l.prog w K mg base c { T0 with fn := [(.«_law_digit», spDigit)], mt := [], cl := [] } 2 := tok_of (k := 1) (List.forall_mem_cons.mpr ⟨FnG.of G__law_digit F6 (PySem.W.mg_of X G a__law_digit) b6 (by omega), (fun _ h => nomatch h)⟩) (fun _ h => nomatch h) (fun _ h => nomatch h)
  have G__law_web : FnOk l.prog w K mg base (L2.CX l.prog w) 3 f7 (PySem.W.fnOf "_law_web" "_law_web" (defArgs s__law_web) (defBody s__law_web) (defScope s__law_web) .none kV7 dc7 pm7 an7 cd7 ct7) P__law_web (toSp c spLawWeb) := (fn_l3 (W0.tab _ _ _) F7 sc__law_web m__law_web k__law_web K7 (by rintro _ M Q E ⟨_, _, rfl, _⟩; rfl) (fun ds M Q E h => ⟨_, fnK_ok, (@w_lawweb c _ (by exact ⟨rfl⟩)) ds M Q E h⟩))
  have K8 : Tok l.prog w K mg base c { T0 with fn := [(.«_law_digit», spDigit)], mt := [], cl := [] } 2 := tok_of (k := 1) (List.forall_mem_cons.mpr ⟨FnG.of G__law_digit F6 (PySem.W.mg_of X G a__law_digit) b6 (by omega), (fun _ h => nomatch h)⟩) (fun _ h => nomatch h) (fun _ h => nomatch h)
  have G__law_bad : FnOk l.prog w K mg base (L2.CX l.prog w) 3 f8 (PySem.W.fnOf "_law_bad" "_law_bad" (defArgs s__law_bad) (defBody s__law_bad) (defScope s__law_bad) .none kV8 dc8 pm8 an8 cd8 ct8) P__law_bad (toSp c spBad) := (fn_l3 (W0.tab _ _ _) F8 sc__law_bad m__law_bad k__law_bad K8 (by rintro _ M Q E ⟨_, _, _, rfl, _⟩; rfl) (fun ds M Q E h => ⟨_, fnK_ok, (@w_bad c _ (by exact ⟨rfl⟩)) ds M Q E h⟩))
  have K9 : Tok l.prog w K mg base c { T0 with fn := [], mt := [], cl := [(.«Web», spWebG)] } 6 := tok_of (k := 5) (fun _ h => nomatch h) (fun _ h => nomatch h) (List.forall_mem_cons.mpr ⟨.inl ⟨C6, _, _, _, _, rfl, G_Web___init__.mono (by omega), ⟨mk_C6, a_Web___init__, i4, kc_C6⟩, b4, PySem.W.mg_of X G g_C6, mk_use⟩, (fun _ h => nomatch h)⟩)
  have G__law_refused : FnOk l.prog w K mg base (L2.CX l.prog w) 7 f9 (PySem.W.fnOf "_law_refused" "_law_refused" (defArgs s__law_refused) (defBody s__law_refused) (defScope s__law_refused) .none kV9 dc9 pm9 an9 cd9 ct9) P__law_refused (toSp c spRef) := (fn_l3 (W0.tab _ _ _) F9 sc__law_refused m__law_refused k__law_refused K9 (by rintro _ M Q E ⟨_, _, rfl, _⟩; rfl) (fun ds M Q E h => ⟨_, fnK_ok, (@w_ref c _ (by exact ⟨rfl, rfl, rfl⟩)) ds M Q E h⟩))
  have K10 : Tok l.prog w K mg base c { T0 with fn := [(.«_law_web», spLawWeb), (.«_law_cell_at», K01.spCell), (.«_law_refused», spRef), (.«_law_bad», spBad)], mt := [], cl := [] } 7 := tok_of (k := 6) (List.forall_mem_cons.mpr ⟨FnG.of G__law_web F7 (PySem.W.mg_of X G a__law_web) b7 (by omega), (List.forall_mem_cons.mpr ⟨FnG.of G__law_cell_at F5 (PySem.W.mg_of X G a__law_cell_at) b5 (by omega), (List.forall_mem_cons.mpr ⟨FnG.of G__law_refused F9 (PySem.W.mg_of X G a__law_refused) b9 (by omega), (List.forall_mem_cons.mpr ⟨FnG.of G__law_bad F8 (PySem.W.mg_of X G a__law_bad) b8 (by omega), (fun _ h => nomatch h)⟩)⟩)⟩)⟩) (fun _ h => nomatch h) (fun _ h => nomatch h)
  have G_law : FnOk l.prog w K mg base (L2.CX l.prog w) 8 fa (PySem.W.fnOf "law" "law" (defArgs s_law) (defBody s_law) (defScope s_law) .none kV10 dc10 pm10 an10 cd10 ct10) P_law (toSp c spScript) := (fn_l3 (W0.tab _ _ _) F10 sc_law m_law k_law K10 (by rintro _ M Q E ⟨_, _, rfl, _⟩; rfl) (fun ds M Q E h => ⟨_, fnK_ok, (@w_law c _ (by exact ⟨rfl, rfl, rfl, rfl⟩)) ds M Q E h⟩))
  exact G_law.imp fun vs H Q E h => end_of vs H Q E h
theorem walk {l : PySem.W.OpenLaw} {q : Program} {loose : List PySem.Str} {XP : (PySem.Str → Option Value) → Heap → Prop} {YP : World → Heap → Prop} {d : DefRec} {K : Params → PySem.W.Frag} (hn : l.most = some 63) (hdf : d.params.defaults = [])
    (hY : ∀ (w : World) (h : Heap), YP w h → (K w.params).In h)
    (F : ∀ (w : World) (mg : PySem.Str → Option Value) (fa : Addr) (h : Heap), (K w.params).In h → h.Ns mainGlobals mg → mg d.name = some (.ref fa) →
      ∃ fd : FuncData, (∀ (s : Shared) (u : Value), BindsTo s fd ⟨[u], []⟩ [("_law_script", u)]) ∧ ∀ base : Heap, (K w.params).In base → base.Ns mainGlobals mg → FnOk l.prog w (K w.params) mg base (L2.CX l.prog w) 8 fa fd ["_law_script"] (spEnd (K w.params))) :
    PySem.W.WalkO q loose XP YP l.row.toRowW d [] (fun f vs => PySem.call f vs) :=
  L2.walk_of (n := 63) (k := 8) (x := "_law_script") (CX := fun w => L2.CX l.prog w) (sp := fun w => spEnd (K w.params)) hn (by decide) hdf ⟨rfl, by decide, by decide⟩ hY F (fun _ _ a ns hl _ hS => ⟨a, ns, rfl, hS, hl, fun _ => rfl⟩) fun w H s e s' h => cx_never H s e s' h
end L3.K02

open PySem PySem.W PyProof.Rows
set_option maxRecDepth 100000 in
set_option maxHeartbeats 0 in
theorem PySem.Challenge.cw_beatless_k02_webs_refused_holds : PySem.Challenge.rw_beatless_k02_webs_refused.Holds := by
  w_on; o_law; k_head; (case hw => w_witness2)
  k_fill
  refine L3.K02.walk (l := PySem.Challenge.rw_beatless_k02_webs_refused) rfl rfl (fun w h Y => PySem.W.kIn_of Y) ?F
  case F =>
    intro w mg fa h KX G hmg
    refine' L3.K02.all_mk KX G hmg ?g_C0 ?g_C1 ?g_C2 ?g_C3 ?g_C4 ?g_C5 ?g_C6 ?i_C0 ?t_C0 ?s_C0_bool ?s_C0_int ?s_C0_str ?s_C0_list ?s_C0_tuple ?s_C0_dict ?s_C0_ValueError ?s_C0_BaseException ?ha_C0 ?hm_C0 ?x_C0_C0 ?x_C0_C1 ?x_C0_C2 ?x_C0_C3 ?x_C0_C4 ?x_C0_C5 ?i_C1 ?t_C1 ?s_C1_bool ?s_C1_int ?s_C1_str ?s_C1_list ?s_C1_tuple ?s_C1_dict ?s_C1_ValueError ?s_C1_BaseException ?ha_C1 ?hm_C1 ?x_C1_C0 ?x_C1_C1 ?x_C1_C2 ?x_C1_C3 ?x_C1_C4 ?x_C1_C5 ?i_C2 ?t_C2 ?s_C2_bool ?s_C2_int ?s_C2_str ?s_C2_list ?s_C2_tuple ?s_C2_dict ?s_C2_ValueError ?s_C2_BaseException ?ha_C2 ?hm_C2 ?x_C2_C0 ?x_C2_C1 ?x_C2_C2 ?x_C2_C3 ?x_C2_C4 ?x_C2_C5 ?i_C3 ?t_C3 ?s_C3_bool ?s_C3_int ?s_C3_str ?s_C3_list ?s_C3_tuple ?s_C3_dict ?s_C3_ValueError ?s_C3_BaseException ?ha_C3 ?hm_C3 ?x_C3_C0 ?x_C3_C1 ?x_C3_C2 ?x_C3_C3 ?x_C3_C4 ?x_C3_C5 ?i_C4 ?t_C4 ?s_C4_bool ?s_C4_int ?s_C4_str ?s_C4_list ?s_C4_tuple ?s_C4_dict ?s_C4_ValueError ?s_C4_BaseException ?ha_C4 ?hm_C4 ?x_C4_C0 ?x_C4_C1 ?x_C4_C2 ?x_C4_C3 ?x_C4_C4 ?x_C4_C5 ?i_C5 ?t_C5 ?s_C5_bool ?s_C5_int ?s_C5_str ?s_C5_list ?s_C5_tuple ?s_C5_dict ?s_C5_ValueError ?s_C5_BaseException ?ha_C5 ?hm_C5 ?x_C5_C0 ?x_C5_C1 ?x_C5_C2 ?x_C5_C3 ?x_C5_C4 ?x_C5_C5 ?hg_C0 ?hk_C0 ?hd_C0 ?hg_C1 ?hk_C1 ?hd_C1 ?hg_C2 ?hk_C2 ?hd_C2 ?hg_C3 ?hk_C3 ?hd_C3 ?hg_C4 ?hk_C4 ?hd_C4 ?hg_C5 ?hk_C5 ?hd_C5 ?ex_C0 ?kx_C0 ?hn ?ht ?pg_C6 ?hd_C6 ?po_C6 ?sa_C6 ?mk_C6 ?kc_C6 ?n_C6_own_hands ?n_C6_own_lines ?n_C6_sides ?g_MOST_HANDS ?g_MOST_NUMBER ?z0 ?z1 ?z2 ?z3 ?z4 ?z5 ?z6 ?z7 ?z8 ?z9 ?z10 ?z11 ?z12 ?z13 ?z14 ?z15 ?z16 ?z17 ?z18 ?z19 ?z20 ?a_is_whole ?a_are_hands ?a_is_line ?a_are_lines ?a__law_cell_at ?a__law_digit ?a__law_web ?a__law_bad ?a__law_refused ?a_law ?a_Web___init__ ?l0 ?c0 ?k0 ?l1 ?c1 ?k1 ?l2 ?c2 ?k2 ?l3 ?c3 ?k3 ?l4 ?c4 ?k4 ?i4 ?l5 ?c5 ?k5 ?l6 ?c6 ?k6 ?l7 ?c7 ?k7 ?l8 ?c8 ?k8 ?l9 ?c9 ?k9 ?l10 ?c10 ?k10
    (case g_C0 => k_is)
    (case g_C1 => k_is)
    (case g_C2 => k_is)
    (case g_C3 => k_is)
    (case g_C4 => k_is)
    (case g_C5 => k_is)
    (case g_C6 => k_is)
    (case i_C0 => k_is)
    (case t_C0 => k_is)
    (case s_C0_bool => k_is)
    (case s_C0_int => k_is)
    (case s_C0_str => k_is)
    (case s_C0_list => k_is)
    (case s_C0_tuple => k_is)
    (case s_C0_dict => k_is)
    (case s_C0_ValueError => k_is)
    (case s_C0_BaseException => k_is)
    (case ha_C0 => k_is)
    (case hm_C0 => k_is)
    (case x_C0_C0 => k_is)
    (case x_C0_C1 => k_is)
    (case x_C0_C2 => k_is)
    (case x_C0_C3 => k_is)
    (case x_C0_C4 => k_is)
    (case x_C0_C5 => k_is)
    (case i_C1 => k_is)
    (case t_C1 => k_is)
    (case s_C1_bool => k_is)
    (case s_C1_int => k_is)
    (case s_C1_str => k_is)
    (case s_C1_list => k_is)
    (case s_C1_tuple => k_is)
    (case s_C1_dict => k_is)
    (case s_C1_ValueError => k_is)
    (case s_C1_BaseException => k_is)
    (case ha_C1 => k_is)
    (case hm_C1 => k_is)
    (case x_C1_C0 => k_is)
    (case x_C1_C1 => k_is)
    (case x_C1_C2 => k_is)
    (case x_C1_C3 => k_is)
    (case x_C1_C4 => k_is)
    (case x_C1_C5 => k_is)
    (case i_C2 => k_is)
    (case t_C2 => k_is)
    (case s_C2_bool => k_is)
    (case s_C2_int => k_is)
    (case s_C2_str => k_is)
    (case s_C2_list => k_is)
    (case s_C2_tuple => k_is)
    (case s_C2_dict => k_is)
    (case s_C2_ValueError => k_is)
    (case s_C2_BaseException => k_is)
    (case ha_C2 => k_is)
    (case hm_C2 => k_is)
    (case x_C2_C0 => k_is)
    (case x_C2_C1 => k_is)
    (case x_C2_C2 => k_is)
    (case x_C2_C3 => k_is)
    (case x_C2_C4 => k_is)
    (case x_C2_C5 => k_is)
    (case i_C3 => k_is)
    (case t_C3 => k_is)
    (case s_C3_bool => k_is)
    (case s_C3_int => k_is)
    (case s_C3_str => k_is)
    (case s_C3_list => k_is)
    (case s_C3_tuple => k_is)
    (case s_C3_dict => k_is)
    (case s_C3_ValueError => k_is)
    (case s_C3_BaseException => k_is)
    (case ha_C3 => k_is)
    (case hm_C3 => k_is)
    (case x_C3_C0 => k_is)
    (case x_C3_C1 => k_is)
    (case x_C3_C2 => k_is)
    (case x_C3_C3 => k_is)
    (case x_C3_C4 => k_is)
    (case x_C3_C5 => k_is)
    (case i_C4 => k_is)
    (case t_C4 => k_is)
    (case s_C4_bool => k_is)
    (case s_C4_int => k_is)
    (case s_C4_str => k_is)
    (case s_C4_list => k_is)
    (case s_C4_tuple => k_is)
    (case s_C4_dict => k_is)
    (case s_C4_ValueError => k_is)
    (case s_C4_BaseException => k_is)
    (case ha_C4 => k_is)
    (case hm_C4 => k_is)
    (case x_C4_C0 => k_is)
    (case x_C4_C1 => k_is)
    (case x_C4_C2 => k_is)
    (case x_C4_C3 => k_is)
    (case x_C4_C4 => k_is)
    (case x_C4_C5 => k_is)
    (case i_C5 => k_is)
    (case t_C5 => k_is)
    (case s_C5_bool => k_is)
    (case s_C5_int => k_is)
    (case s_C5_str => k_is)
    (case s_C5_list => k_is)
    (case s_C5_tuple => k_is)
    (case s_C5_dict => k_is)
    (case s_C5_ValueError => k_is)
    (case s_C5_BaseException => k_is)
    (case ha_C5 => k_is)
    (case hm_C5 => k_is)
    (case x_C5_C0 => k_is)
    (case x_C5_C1 => k_is)
    (case x_C5_C2 => k_is)
    (case x_C5_C3 => k_is)
    (case x_C5_C4 => k_is)
    (case x_C5_C5 => k_is)
    (case hg_C0 => k_is)
    (case hk_C0 => k_is)
    (case hd_C0 => k_is)
    (case hg_C1 => k_is)
    (case hk_C1 => k_is)
    (case hd_C1 => k_is)
    (case hg_C2 => k_is)
    (case hk_C2 => k_is)
    (case hd_C2 => k_is)
    (case hg_C3 => k_is)
    (case hk_C3 => k_is)
    (case hd_C3 => k_is)
    (case hg_C4 => k_is)
    (case hk_C4 => k_is)
    (case hd_C4 => k_is)
    (case hg_C5 => k_is)
    (case hk_C5 => k_is)
    (case hd_C5 => k_is)
    (case ex_C0 => k_exc)
    (case kx_C0 => k_is)
    (case hn => k_is)
    (case ht => k_is)
    (case pg_C6 => k_is)
    (case hd_C6 => k_is)
    (case po_C6 => k_is)
    (case sa_C6 => k_is)
    (case mk_C6 => k_is)
    (case kc_C6 => k_is)
    (case n_C6_own_hands => k_is)
    (case n_C6_own_lines => k_is)
    (case n_C6_sides => k_is)
    (case g_MOST_HANDS => k_is)
    (case g_MOST_NUMBER => k_is)
    (case z0 => k_is)
    (case z1 => k_is)
    (case z2 => k_is)
    (case z3 => k_is)
    (case z4 => k_is)
    (case z5 => k_is)
    (case z6 => k_is)
    (case z7 => k_is)
    (case z8 => k_is)
    (case z9 => k_is)
    (case z10 => k_is)
    (case z11 => k_is)
    (case z12 => k_is)
    (case z13 => k_is)
    (case z14 => k_is)
    (case z15 => k_is)
    (case z16 => k_is)
    (case z17 => k_is)
    (case z18 => k_is)
    (case z19 => k_is)
    (case z20 => k_is)
    (case a_is_whole => k_is)
    (case a_are_hands => k_is)
    (case a_is_line => k_is)
    (case a_are_lines => k_is)
    (case a__law_cell_at => k_is)
    (case a__law_digit => k_is)
    (case a__law_web => k_is)
    (case a__law_bad => k_is)
    (case a__law_refused => k_is)
    (case a_law => k_is)
    (case a_Web___init__ => k_is)
    (case l0 => k_is)
    (case c0 => k_is)
    (case k0 => k_is)
    (case l1 => k_is)
    (case c1 => k_is)
    (case k1 => k_is)
    (case l2 => k_is)
    (case c2 => k_is)
    (case k2 => k_is)
    (case l3 => k_is)
    (case c3 => k_is)
    (case k3 => k_is)
    (case l4 => k_is)
    (case c4 => k_is)
    (case k4 => k_is)
    (case i4 => k_is)
    (case l5 => k_is)
    (case c5 => k_is)
    (case k5 => k_is)
    (case l6 => k_is)
    (case c6 => k_is)
    (case k6 => k_is)
    (case l7 => k_is)
    (case c7 => k_is)
    (case k7 => k_is)
    (case l8 => k_is)
    (case c8 => k_is)
    (case k8 => k_is)
    (case l9 => k_is)
    (case c9 => k_is)
    (case k9 => k_is)
    (case l10 => k_is)
    (case c10 => k_is)
    (case k10 => k_is)
#print axioms PySem.Challenge.cw_beatless_k02_webs_refused_holds
